/- BalanceSmall: its frame. -/
import Derived.Test.YtonddbmhljelgaaBalSm4
import Derived.Test.YtonddbmhljelgaaBalTr
import Derived.Test.YtonddbmhljelgaaBalTot
set_option linter.unusedVariables false
set_option linter.unusedSimpArgs false
namespace Go.Bal
open Go Go.Sym Go.Proofs
abbrev AZI:=@Exists SmI
abbrev kF:=Int.tmod
abbrev BBC:=@Exists SmM
abbrev Lz:=SmM.i
abbrev Yr:=SmM.n
abbrev Ky:=SmM.N
abbrev AZA a b c:=WN a b b c
abbrev Sa a b:=kF (BT a) b
abbrev dU a:=Qb (Bi (hd76 a) 0)
abbrev mJ a b c d e f g:=JI a b c (JI d e f g)
abbrev BAH a b:=WC (WC a b) b
abbrev Ve a:=BAH (BAH a 1) 1
abbrev Vn a:=Ve (Ve a)
abbrev jJ a:=Vn (Vn a)
abbrev mP a:=BAH a 1
attribute [go_sem] AZI kF BBC Lz Yr Ky AZA Sa dU mJ BAH Ve Vn jJ mP
theorem vc12 (w : One) : (V12 w) = (PV (λ i=>And (BF (Nu Di Ib (AZ i) (λ j=>AOI j (Q2 Ug j (JI j (-100000001) (-100000000) (mJ (mP j) (-1000001) (-1000000) (Ve j) (-201) (-126) (mJ (mP (Ve j)) (-125) (-105) (Vn j) (-2) (-1) (mJ (mP (Vn j)) 0 1 (Ve (Vn j)) 2 3 (mJ (mP (Ve (Vn j))) 10 15 (jJ j) 16 99 (mJ (mP (jJ j)) 100 105 (Ve (jJ j)) 115 116 (mJ (mP (Ve (jJ j))) 125 126 (Vn (jJ j)) 140 1000000 (mJ (mP (Vn (jJ j))) 1000001 100000000 (Ve (Vn (jJ j))) 100000001 9223372036854775807 (-9223372036854775808))))))))))))) (TB i 31)) (λ i=>Fb (TB i 31) i 31 (iV (AJ (Ro i 31) (AZI (λ j=>Nq (AP (jU (Qu j) (AT i)) (AZ (Oy j)) AC (uD Di Ib (Qu j) i vO)) (sF (Qu j)) (AUO j i) (Oy j) 24)) (BEZ (λ j=>Fb (J3 j i) (Oy j) 24 (Bm (XQ 105) (XQ 130) (W6 (EG (dU 2) (Bz (Sa (Oy j) 2) 1) (Bm rP sX (BBC (λ k=>C5 (AP (jU (Lz k) (Qu j)) (EQ (Yr k) (Oy j)) AC (WN Di Ib (EQ (Lz k) (Qu j)) (Ns Z3 DC (Nu JN DC (AG (λ l=>Ip l 3 (CU (Ky k) l) CF l CF l)) (λ l=>OR l 2 (QJ (EJ (Ky k) l) CF l) (EC (Ky k) l) CF l (CY (Ky k) l) l))))) (Lz k) 31 (Xg (Lz k) i) (ON (Yr k) 24) (F1 24 (Yr k) j)))) (BBC (λ k=>C5 (AP (jU (Lz k) (Qu j)) (EQ (Yr k) (Oy j)) AC (WN Di Ib (EQ (Lz k) (Qu j)) (Ns Z3 DC (Nu JN DC (AG (λ l=>Ip l 3 (CU (Ky k) l) DJ l DJ l)) (λ l=>OR l 2 (QJ (EJ (Ky k) l) DJ l) (EC (Ky k) l) DJ l (CY (Ky k) l) l))))) (Lz k) 31 (Xg (Lz k) i) (ON (Yr k) 24) (F1 24 (Yr k) j)))) ((λ (f : SmM -> Prop) => ∀ (x : SmM), f x) (λ k=>RB (AP (sF (Lz k)) (Xg (Lz k) i) (ON (Yr k) 24) (F1 24 (Yr k) j)) (And (Qe 3) (BG (Qe 3) (KX 1 3) (KX 2 3) (Qe 2) (AZA (Qe 2) (KX 1 2) (AZA (Qe 2) (KX 1 2) (AQX (KX 1 2) (KX 1 3) (KX 2 3) (Qe 3) (KX 1 3) (Qe 2) (IV 1) (NX 1 2)))))) (BBC (λ l=>C5 (BF (Ns DC JN (Bo (DU 24) (jU (Lz l) (Lz k)) (EQ (Yr l) (Yr k)) (WN Di Ib (EQ (Lz l) (Lz k)) (Ns Z3 DC (WN JN DC (AG (λ m=>Ip m 3 (CU (Ky l) m) (Ky k) m (Ky k) m)) (Ns (AG (λ m=>OR m 2 (QJ (EJ (Ky l) m) (Ky k) m) (EC (Ky l) m) (Ky k) m (CY (Ky l) m) m)) JN (BG DC (XQ 15) (XQ 1) (XQ 110) (XI DC (λ m=>JV m 3 C8 (JI m 0 (-1) 0)) JN (λ m=>JV m 2 (bN 0 1) (TG m 0 1)) AC AC SK JN (qO AC SK (qO AC SK (On AC SK JN (WN AC SK JN (Be SK JN (λ m=>JV m 2 (bN 110 118) (TG m 110 118)) DC (λ m=>JV m 3 AHB (JI m 110 8 (-118))))))))))))))))) (Lz l) 31 (Xg (Lz l) i) (ON (Yr l) 24) (F1 24 (Yr l) j))))))) (IJ (λ k=>AJ (BF (uD Di Ib k (Qu j) vO)) (sF k) (Xg k i)))))) (λ j=>Bj (sF j) (Xg j i) (IJ (λ k=>UW (BF (Nu Di Ib (AU k j) vO)) k 31 i)))) (Zc (λ j=>SM)))) := by kernel_rfl
theorem p12 (w : One) : V12 w := by
 rw [vc12]<;> simp only [go_sem]; simp only [CC, eq_self, implies_true, forall_const]
 refine ⟨⟨0, ⟨rfl, λ i hi => ?_⟩, by omega⟩, λ a ha => ⟨λ h => ⟨⟨⟨⟨Int.natCast_nonneg a, h⟩, Int.ofNat_lt.1 h⟩, ⟨⟨a, 0⟩, ⟨rfl, rfl, rfl⟩, ?_, rfl, ?_⟩, λ s hs => ⟨λ h2 => ⟨⟨by simp, λ h3 => ⟨⟨s.i, s.n, dG 140 150⟩, ?_⟩, λ h3 => ⟨⟨s.i, s.n, dG 105 130⟩, ?_⟩⟩, λ t ht => ⟨by simp, t, ?_⟩⟩, λ h2 => ⟨s.i, rfl, hs.1, hs.2.1⟩⟩⟩, λ b hb => ⟨b + 1, ?_, ?_, ?_⟩⟩, λ _ => ⟨default, trivial⟩⟩⟩
 ·revert hi; revert i; decide +kernel
 ·exact Int.ofNat_lt.1 h
 ·exact Nat.zero_le _
 ·exact ⟨⟨rfl, rfl, rfl, λ _ _ => ⟨rfl, rfl⟩, λ _ _ => ⟨rfl, rfl, rfl, rfl⟩⟩, hs.1, hs.2.1, Int.ofNat_lt.1 h2, rfl⟩
 ·exact ⟨⟨rfl, rfl, rfl, λ _ _ => ⟨rfl, rfl⟩, λ _ _ => ⟨rfl, rfl, rfl, rfl⟩⟩, hs.1, hs.2.1, Int.ofNat_lt.1 h2, rfl⟩
 ·exact ⟨⟨rfl, rfl, rfl, λ _ _ => ⟨rfl, rfl⟩, λ _ _ => ⟨rfl, rfl, rfl, rfl⟩, by simp [Gm, Gl, Gk, Ku], by simp [Ey, Gl, Gk], by simp [Ey, Gl, Gk], by simp [Gm, Gl, Gk, Ku]⟩, ht⟩
 ·rw [AL (by omega)]
 ·omega
 ·omega
end Go.Bal

namespace Go.Bal
open Go Go.Sym Go.Proofs
def BHB (w : One) : Prop := L12 13
abbrev Iz:=not Hi
abbrev ALN a:=BT (L9 a)
abbrev YQ a b:=Ys (ALN a) b
abbrev Rv a b:=Tt (ALN a) b
abbrev Wb a:=Rv a 20
attribute [go_sem] Iz ALN YQ Rv Wb
theorem BLR (w : One) : (BHB w) = (AG (λ i=>PH i (λ j=>VK (J3 j i) ((λ (f : SmR -> Prop) => ∀ (x : SmR), f x) (λ k=>VK (AP (sF (pV k)) (AVX k i) (ON (L9 k) 24) (AVA k j)) (EG (AJ (VB (Rv k 16) (Ko (OB (Hb k)) (Hb k) (DE (Hb k)) (EO (λ l=>HW l (Hb k)) (DB (kQ k)) (λ l=>FW l (HQ (kQ k)) (kQ k)) (DB (rZ k)) (DN (rZ k))))) (aV (not (KT (Rv k 16) Iz)) (Cj (Rv k 12) (YQ k 15) (Wb k)) (SJ (Hb k) (EF (DE (Hb k)) (λ l=>HW l (Hb k)) (AR (SmR.c k)) (DB (gK k)) (DN (gK k))))) (aV (not (Cj (KT (Rv k 16) Iz) (Cj (Rv k 12) (YQ k 15) (Wb k)) Iz)) (WS (Rv k 12) (YQ k 19)) (Ko (OB (Hb k)) (Hb k) (DE (Hb k)) (BG (Of (Hb k)) (AR (SmR.r k)) (AR (SmR.f k)) (DB (kT k)) (DN (kT k)))))) (Cj (Cj (KT (Rv k 16) Iz) (Cj (Rv k 12) (YQ k 15) (Wb k)) Iz) (WS (Rv k 12) (YQ k 19)) Iz) iG (Tj rP sX (dU 2) (IK (Bz (kF (ALN k) 2) 1) (Tj (XQ 105) (XQ 130) (And (Rf (KT (YQ k 11) (Wb k)) DC (λ l=>Ud l 3 (Bk DJ l) DJ l l) (EF JN (λ l=>OR l 2 (Ed DJ l) (Hc DJ l) DJ l (He DJ l) l) (AR (SmR.c k)) (DB (gK k)) (DN (gK k)))) (aV (not (Mo (YQ k 11) (Wb k) Iz)) (YQ k 19) (DW DC (λ l=>Ud l 3 (Bk DJ l) DJ l l) JN (BG (AG (λ l=>OR l 2 (Ed DJ l) (Hc DJ l) DJ l (He DJ l) l)) (AR (SmR.r k)) (AR (SmR.f k)) (DB (kT k)) (DN (kT k)))))) (Od (Cj (Mo (YQ k 11) (Wb k) Iz) (YQ k 19) Iz) (AZI (λ l=>CB (AP (jU (Qu l) (pV k)) (AU (Oy l) (L9 k)) AC (uD Di Ib (Qu l) (pV k) vO)) (J3 l i) 24 (Oy l) (Oy j))))) (EG (And (Rf (KT (YQ k 11) (Wb k)) DC (λ l=>Ud l 3 (Bk CF l) CF l l) (EF JN (λ l=>OR l 2 (Ed CF l) (Hc CF l) CF l (He CF l) l) (AR (SmR.c k)) (DB (gK k)) (DN (gK k)))) (aV (not (Mo (YQ k 11) (Wb k) Iz)) (YQ k 19) (DW DC (λ l=>Ud l 3 (Bk CF l) CF l l) JN (BG (AG (λ l=>OR l 2 (Ed CF l) (Hc CF l) CF l (He CF l) l)) (AR (SmR.r k)) (AR (SmR.f k)) (DB (kT k)) (DN (kT k)))))) (Cj (Mo (YQ k 11) (Wb k) Iz) (YQ k 19) Iz) iG (AZI (λ l=>CB (AP (jU (Qu l) (pV k)) (AU (Oy l) (L9 k)) AC (uD Di Ib (Qu l) (pV k) vO)) (J3 l i) 24 (Oy l) (Oy j)))))))))))) := by kernel_rfl
theorem BND (w : One) : BHB w := by
 rw [BLR]<;> simp only [go_sem]; simp only [CC, eq_self, implies_true, forall_const]
 refine λ a ha s hs r hr => ?_
 have e : IntKind.i64.wrap ((r.n : Int) + 1) = ((r.n + 1 : Nat) : Int) := AL (by omega)
 have k : ∃ x : SmI, (gD Ug x.i = gD Ug r.i /\ (x.n : Int) = IntKind.i64.wrap ((r.n : Int) + 1) /\ (x.i : Int) = r.i) /\ (x.i < 31 /\ 31 - x.i = 31 - a /\ x.n <= 24) /\ 24 - x.n < 24 - s.n := ⟨⟨r.i, r.n + 1⟩, ⟨rfl, e.symm, rfl⟩, ⟨hr.1, hr.2.1, by show r.n + 1 <= 24; omega⟩, by show 24 - (r.n + 1) < 24 - s.n; omega⟩
 simp [k]
end Go.Bal

namespace Go.Bal
open Go Go.Sym Go.Proofs
def BGZ (w : One) : Prop := L12 21
abbrev BBH:=@Exists SmX
abbrev SV:=SmX.n
abbrev Uy:=SmX.g
abbrev BIF:=λ (f : SmX -> Prop) => ∀ (x : SmX), f x
abbrev Kz:=SmX.r
abbrev APV:=@Exists SmY
abbrev UR:=SmY.n
abbrev ZW:=SmY.fl
abbrev VU:=SmY.N
abbrev dY a b:=AQA 3000 a b
abbrev dD a:=ON a 3000
abbrev FX a:=PM (Kz a)
abbrev ATL a b c:=kF (gR (Int.tdiv a b)) c
abbrev lM a b c:=ATL (BT a) b c
abbrev Km a b c:=lM (SV a) b c
abbrev Rh:=MY 4
abbrev aF a b:=RH (Uy a) b
abbrev ABR (a:Nat->Prop) b (c:Nat->Prop):=C7 (AG a) b c
abbrev Wj a:=ME a 2
abbrev oO a b:=gR (iN a b)
abbrev Wc:=MY 3
abbrev iU a:=NJ 1 a
attribute [go_sem] BBH SV Uy BIF Kz APV UR ZW VU dY dD FX ATL lM Km Rh aF ABR Wj oO Wc iU
theorem BLA (w : One) : (BGZ w) = (Va (λ i=>RB SM (IJ (λ j=>And (AZ j) (TB j 3000))) (AG (λ j=>Fb (TB j 3000) j 3000 (AP (Gx (MY 5) (On (MY 5) Wc Rh (BBQ Wc Rh (MY 2) (MY 7) (MY 5) (MY 9) (MY 7) (dU 5)))) (BBH (λ k=>AP (AJ (EQ (SV k) j) BX (FR (aF k 3) Jr (λ l=>QA l (LC (Uy k)) (ES (Uy k) l) (JI (AT l) (Wj (Sa j 5)) (WY (lM j 3 4)) (ZU (lM j 7 5))) (JI (AT l) (NJ (Wj (Sa j 5)) (lM j 5 3)) (NJ (lM j 3 4) (Sa j 2)) (ME (lM j 9 3) (lM j 7 5)))) AC BU)) (dD (SV k)) (dY (SV k) j) (aF k 3))) (BIF (λ k=>RB (AJ (dD (SV k)) (dY (SV k) j) (aF k 3)) (dU 3) (Lc 0 (iU (Sa (SV k) 3)) (Tj (MY (NJ (gR (Ur 2 0)) 3)) (dU 7) (AJ Wc Rh (IW (MY 2) Wc (MY (NJ 0 2)) Rh (lW (lJ 4)) aC AAD (nK 9223372036854775807) (EP 32 140737488355328))) (BBH (λ l=>kE (AP (EQ (SV l) (SV k)) (qY (FX l) 0) (aF l (LC (Uy k))) (ABR (λ m=>TT m (Uy l) (Uy k) m) (MN (Kz l) 1) (λ m=>OX m (FX l) (Oj (Kz l) m (kF (Io (SV k) 0) 3)) (FY (Kz l) m) (kF (NJ (NJ (Io (SV k) 0) 1) (Km k 4 2)) 3) (IU (Kz l) m) (Wj (Km k (NJ (gR (Ur 2 0)) 3) 7)) (NJ (Wj (Km k (NJ (gR (Ur 2 0)) 3) 7)) (Km k (NJ 0 2) 4))))) (Nq (dD (SV l)) (dY (SV l) j) (aF l 3) (FX l) 3) 3 (FX l) 4))) (And (AIX Rh (MY 16) (BG Rh E5 (Ft 0) (bX (BT 0) (BT 3)) (Or (AR 0) (NX 0 0)))) (APV (λ l=>AJ (OE (EQ (UR l) (SV k)) (RM (ZW l)) 0 3 (Zd (AG (λ m=>FL m (ZW l) (JI (Oi (AT ZH) m) (Sa (SV k) 4) (Km k 4 4) (Km k 16 4)))) (Mu (VU l) (LC (Uy k))) (AG (λ m=>Vz m (AY (VU l)) (CU (VU l) m) (ES (Uy k) m))) (FB (AM (VU l))))) (dD (UR l)) (dY (UR l) j))))))) (BIF (λ k=>RB (Nq (dD (SV k)) (dY (SV k) j) (aF k 3) (FX k) 3) (dU 3) (Lc (BT (FX k)) (iU (Sa (SV k) 3)) (Tj (MY (NJ (oO 2 (FX k)) 3)) (dU 7) (AJ Wc Rh (IW (MY 2) Wc (MY (Io (FX k) 2)) Rh (Y8 (FX k) 4) aC (AEB tN) (EP (UQ (FX k)) 9223372036854775807) (EP (BAG (UQ (FX k)) 32) 140737488355328))) (BBH (λ l=>CB (AP (EQ (SV l) (SV k)) (AU (FX l) (FX k)) (aF l (LC (Uy k))) (ABR (λ m=>TT m (Uy l) (Uy k) m) (MN (Kz l) (UQ (FX k))) (λ m=>OX m (FX l) (Oj (Kz l) m (HV m (FX k) (IN (Kz k) m) (kF (Io (SV k) (BT (FX k))) 3))) (FY (Kz l) m) (HV m (FX k) (FY (Kz k) m) (kF (NJ (NJ (Io (SV k) (BT (FX k))) 1) (Km k 4 2)) 3)) (IU (Kz l) m) (Nv m (FX k) (IU (Kz k) m) (Wj (Km k (NJ (oO 2 (FX k)) 3) 7))) (Mj m (FX k) (IU (Kz k) m) (NJ (Wj (Km k (NJ (oO 2 (FX k)) 3) 7)) (Km k (Io (FX k) 2) 4)))))) (Nq (dD (SV l)) (dY (SV l) j) (aF l 3) (FX l) 3) 3 (FX l) (FX k)))) (And (AIX Rh (MY 16) (BG Rh E5 (Ft (FX k)) (bX (BT (FX k)) (BT 3)) (Or (AR 0) (NX 0 (FX k))))) (APV (λ l=>AJ (IP (EQ (UR l) (SV k)) (FI (ZW l) (WC (FX k) ZH)) (I1 (Bh (FX k)) 3) (λ m=>FL m (ZW l) (JI (Oi (AT ZH) m) (Sa (SV k) 4) (Km k 4 4) (Km k 16 4))) (Mu (VU l) (LC (Uy k))) (AG (λ m=>Vz m (AY (VU l)) (CU (VU l) m) (ES (Uy k) m))) (ED (AM (VU l)) (FX k)) (BM (FX k)) (AG (λ m=>jI m (AM (VU l)) (AS (EJ (VU l) m) (IN (Kz k) (AT m))) (EC (VU l) m) (FY (Kz k) (AT m)) (CY (VU l) m) (IU (Kz k) (AT m))))) (dD (UR l)) (dY (UR l) j)))))))) (Zc (λ k=>SM)))))) := by kernel_rfl
def BFE (w : One) : Prop := L12 31
abbrev AYK:=λ (f : SmY -> Prop) => ∀ (x : SmY), f x
abbrev Bs a:=BT (UR a)
abbrev eZ a b c:=ATL (Bs a) b c
abbrev ABK a b:=kF (Bs a) b
abbrev G5 a:=ABK a 2
abbrev sP a:=iU (G5 a)
abbrev lY a:=ABK a 3
abbrev bF a:=PF (dU a)
abbrev Vu a b:=eZ a b 3
attribute [go_sem] AYK Bs eZ ABK G5 sP lY bF Vu
theorem BKX (w : One) : (BFE w) = (AG (λ i=>ACZ i 3000 (ARW (AYK (λ j=>RB (And (dD (UR j)) (dY (UR j) i)) (AIX Wc (MY 2) (FR (MY 5) (OB (VU j)) (λ k=>OD k (VU j)) (DE (VU j)) (MW (λ k=>HW k (VU j)) (DB (ZW j)) (DN (ZW j)) (AFL (dZ (λ k=>JI k (lY j) (ME 1 (Vu j 3)) (Wj (eZ j 2 5))))) Jr (AG (λ k=>FL k (dZ (λ l=>JI l (lY j) (ME 1 (Vu j 3)) (Wj (eZ j 2 5)))) (JI (AT k) (lY j) (ME 1 (Vu j 3)) (Wj (eZ j 2 5))))) (bF 6) (bF 3) (AZB (bF 3) (bF 9) (BG (PF (SJ (VU j) (EF (DE (VU j)) (λ k=>HW k (VU j)) (AR (ABK j 6)) (AFL (dZ (λ k=>JI k (WY (lY j)) (WY (Vu j 3)) (WY (Vu j 9))))) (AG (λ k=>FL k (dZ (λ l=>JI l (WY (lY j)) (WY (Vu j 3)) (WY (Vu j 9)))) (JI k (WY (lY j)) (WY (Vu j 3)) (WY (Vu j 9)))))))) (bF 3) (bF 9) (bF 2) (AIX (bF 2) (PF (AJ E5 (IV (sP j)) (bX (sP j) (BT 2)))) (PF (Ko (OB (VU j)) (VU j) (DE (VU j)) (BG (Of (VU j)) (AR (lY j)) (AR (ME (ABK j 9) 3)) (FI (UM (WC (TR (sP j)) ZH) (λ k=>TG (Ij k) (G5 j) (iU (eZ j 2 2)))) (WC (TR (sP j)) ZH)) (AG (λ k=>AVJ k (UM (Bh (TR (sP j))) (λ l=>PZ l (G5 j) (iU (eZ j 2 2)))) (UM (WC (TR (sP j)) ZH) (λ l=>TG (Ij l) (G5 j) (iU (eZ j 2 2)))) k (TG (Ij k) (G5 j) (iU (eZ j 2 2)))))))))))))) (IJ (λ k=>UW (AU k (UR j)) k 3000 i))))))) := by kernel_rfl
theorem BKI {α : Type} [Inhabited α] (l : List α) (x : α) {i : Nat} (hi : i < l.length + 1) : gD (l ++ [x]) i = bif decide (i < l.length) then gD l i else x := by
 rw [CP]
 by_cases h : i < l.length
 ·simp [h]
 ·have : i - l.length = 0 := by omega
  simp only [h, if_false, decide_false, cond_false, this]; rfl
theorem BLW {a b : Int} (ha : 0 <= a) (hb : 0 < b) : 0 <= a.tmod b /\ a.tmod b < b := BLF ha hb
theorem BOW (w : One) : BFE w := by
 rw [BKX]<;> simp only [go_sem]; simp only [CC, eq_self, implies_true, forall_const]
 intro a ha s hs
 have q1 := BLW (a := (s.n : Int)) (b := 2) (by omega) (by omega)
 have q2 : IntKind.i64.wrap (1 + (s.n : Int).tmod 2) = 1 + (s.n : Int).tmod 2 := Gp (by omega) (by omega)
 refine ⟨?_, s.n + 1, ?_, ?_, ?_⟩
 ·simp [Gm, CO, q2]
  exact ⟨by omega, λ i hi => by rw [CO _ _ _ (by omega)]⟩
 ·rw [AL (by omega)]
 ·omega
 ·omega
def smx (a : Int) (j : Nat) : Span := ⟨bif decide (j = 0) then wr (a.tmod 5 - 2) else bif decide (j - 1 = 0) then wr ((wr (a.tdiv 3)).tmod 4 - 1) else wr (-(wr (a.tdiv 7)).tmod 5),
 bif decide (j = 0) then wr (wr (a.tmod 5 - 2) + (wr (a.tdiv 5)).tmod 3) else bif decide (j - 1 = 0) then wr ((wr (a.tdiv 3)).tmod 4 + a.tmod 2) else wr ((wr (a.tdiv 9)).tmod 3 - (wr (a.tdiv 7)).tmod 5)⟩
def smy (n i : Int) : Reach := ⟨(wr (n + i)).tmod 3, (wr (wr (wr (n + i) + 1) + (wr (n.tdiv 4)).tmod 2)).tmod 3, ⟨wr ((wr (n.tdiv (wr (wr (2 * i) + 3)))).tmod 7 - 2), wr (wr ((wr (n.tdiv (wr (wr (2 * i) + 3)))).tmod 7 - 2) + (wr (n.tdiv (wr (i + 2)))).tmod 4)⟩⟩
def smf (n : Int) (j : Nat) : Int := bif decide (j = 0) then n.tmod 4 else bif decide (j - 1 = 0) then (wr (n.tdiv 4)).tmod 4 else (wr (n.tdiv 16)).tmod 4
theorem BKD {m : Nat} {n : Int} {j : Nat} (h : j < m) : gD (NO m (smf n)) j = bif decide (0 + j = 0) then n.tmod 4 else bif decide (0 + j - 1 = 0) then (wr (n.tdiv 4)).tmod 4 else (wr (n.tdiv 16)).tmod 4 := by
 rw [CO _ _ _ h, Nat.zero_add]; rfl
theorem BON (w : One) : BGZ w := by
 rw [BLA]<;> simp only [go_sem]; simp only [CC, eq_self, implies_true, forall_const]
 refine ⟨⟨0, rfl, by omega⟩, λ a ha => ⟨λ h => ⟨by simp, ⟨⟨a, NO 3 (smx a), []⟩, ⟨rfl, rng_length _ _, by omega, λ j hj => ?_⟩, Int.ofNat_lt.1 h, rfl, rng_length _ _⟩, λ x hx => ⟨by simp, λ h2 => ?_, λ h2 => ?_⟩, λ x hx => ⟨by simp, λ h2 => ?_, λ h2 => ?_⟩⟩, λ _ => ⟨default, trivial⟩⟩⟩
 ·rw [CO _ _ _ (by simpa using hj)]; exact ⟨rfl, rfl⟩
 ·refine ⟨?_, ?_, ⟨x.n, x.g, [smy x.n 0]⟩, ⟨rfl, ?_, rfl, λ _ _ => ⟨rfl, rfl⟩, rfl, rfl, λ i hi => ?_⟩, ⟨hx.1, hx.2.1, hx.2.2, by simp⟩, by simp⟩
  ·decide
  ·decide
  ·rfl
  ·have : i = 0 := by simpa using hi
   subst this; exact ⟨rfl, rfl, rfl, rfl⟩
 ·refine ⟨by simp, ⟨x.n, ⟨x.g, []⟩, []⟩, ⟨rfl, rfl, by omega, λ j hj => by simp at hj, rfl, λ _ _ => ⟨rfl, rfl⟩, rfl⟩, hx.1, hx.2.1⟩
 ·have q1 := BLW (a := (x.n : Int)) (b := 3) (by omega) (by omega)
  have q2 : IntKind.i64.wrap (1 + (x.n : Int).tmod 3) = 1 + (x.n : Int).tmod 3 := Gp (by omega) (by omega)
  rw [q2] at h2
  have hl : x.r.length <= 2 := by omega
  refine ⟨?_, ?_, ⟨x.n, x.g, x.r ++ [smy x.n x.r.length]⟩, ⟨rfl, ?_, rfl, λ _ _ => ⟨rfl, rfl⟩, by simp, by simp, λ i hi => ?_⟩, ⟨hx.1, hx.2.1, hx.2.2.1, by simp; omega⟩, by simp; omega⟩
  ·rw [Gp (n := 2 * (x.r.length : Int)) (by omega) (by omega), Gp (n := 2 * (x.r.length : Int) + 3) (by omega) (by omega)]
   exact ⟨by omega, by simp⟩
  ·rw [Gp (n := (x.r.length : Int) + 2) (by omega) (by omega)]
   refine ⟨by omega, by omega, by omega, by omega, by omega, by omega, by omega, by simp, by omega, by omega⟩
  ·rw [AL (by omega)]; simp
  ·rw [BKI _ _ (by simpa using hi)]
   cases decide (i < x.r.length) with
   | true => exact ⟨rfl, rfl, rfl, rfl⟩
   | false => exact ⟨rfl, rfl, rfl, rfl⟩
 ·refine ⟨?_, ⟨x.n, ⟨x.g, x.r⟩, NO x.r.length (smf x.n)⟩, ⟨rfl, by simp, by omega, λ j hj => ?_, rfl, λ _ _ => ⟨rfl, rfl⟩, rfl, by omega, λ _ _ => ⟨rfl, rfl, rfl, rfl⟩⟩, hx.1, hx.2.1⟩
  ·simp; omega
  ·exact BKD (by simpa using hj)
end Go.Bal
