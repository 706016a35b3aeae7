/- BalanceSmall: parts. -/
import Derived.Test.YtonddbmhljelgaaBalSm4
import Derived.Test.YtonddbmhljelgaaBalSm3
set_option linter.unusedVariables false
set_option linter.unusedSimpArgs false
namespace Go.Bal
open Go Go.Sym Go.Proofs
def BIG (w : One) : Prop := L12 33
abbrev MC:=oM
abbrev qC:=@Exists SmZ
abbrev VY:=SmZ.n
abbrev BE:=SmZ.i
abbrev AGT:=λ (f : SmZ -> Prop) => ∀ (x : SmZ), f x
abbrev QZ a b:=AQA 18 a b
abbrev QW a:=ON a 18
abbrev K2 a (b:Nat->Prop):=ABR (λ i=>Wv i 3 smT) a b
abbrev Oa (a:Nat->Prop):=K2 JN a
abbrev SF:=smW 2
abbrev VD a:=smRs (smK (BE a))
abbrev Hj a:=AM (MC a)
abbrev Nr a:=PM (VD a)
abbrev Hf a b:=ES (smG a) b
abbrev Ch a:=AY (MC a)
abbrev We a b:=EQ a (VY b)
abbrev bA a:=WC 18 (BE a)
abbrev Xk a:=BBY (VY a) 10
abbrev YF a b:=QZ (VY a) b
abbrev ZF a:=QW (VY a)
abbrev UU a:=UQ (BE a)
abbrev RE a:=smRs (smK (UU a))
abbrev cJ a:=BT (BE a)
abbrev rD a:=PM (RE a)
abbrev AMP a:=Zp (BT a) 10
abbrev Fd a:=AMP (VY a)
attribute [go_sem] MC qC VY BE AGT QZ QW K2 Oa SF VD Hj Nr Hf Ch We bA Xk YF ZF UU RE cJ rD AMP Fd
theorem BKT (w : One) : (BIG w) = (Va (λ i=>RB SM (IJ (λ j=>And (AZ j) (TB j 18))) (AG (λ j=>Fb (TB j 18) j 18 (FR (And (XQ 105) (XQ 130)) (IJ (λ k=>AJ (eR (EQ k j) BX AC BU BU DC Jr (ABR (λ l=>ATK l 3 (ES smT l) DJ l DJ) JN (λ l=>AUH l 2 (QJ (IN SF l) DJ l) SF (EC DJ l) (CY DJ l)))) (QW k) (QZ k j))) (λ k=>Fb (And (QW k) (QZ k j)) 0 (AMP k) (fO (λ l=>O1 (And (EQ l k) (Ns (AWH 1 ((@HMod.hMod Nat Nat Nat (@instHMod Nat Nat.instMod)) (AT 1) (Int.natAbs ((@HPow.hPow Int Nat Int (@instHPow Int Nat (@instPowNat Int Int.instNatPow))) 2 (IntKind.bits hd28))))) SK (EO PU SK (λ m=>QA m 1 (Hf 1 m) (oO (-10) 0) 1000000) DC (Oa (λ m=>UX m 2 SF m m m))))) (VR (QW l) (QZ l j) 1 l) 19 20)) (IJ (λ l=>AJ (AJ (EQ l k) (FB (Ch l)) (On (FB (Ch l)) (FB (Hj l)) DC (Oa (λ m=>UX m 2 SF m m m)))) (QW l) (QZ l j)))) (AG (λ k=>Fb (VR (QW k) (QZ k j) 1 k) 1 (AMP k) (AJ (AHD (ANV SK 2) Ir (AEB tN) 2 32) (Vy (lJ 4) aC 32) (qC (λ l=>JH (EQ (VY l) k) (EQ (BE l) 1) AC (WN (cB (UU l)) AC (MN (RE l) 1) (EO (λ m=>QA m (UU l) (Hf (UU l) m) (Nv m 1 (Hf 1 m) (oO (-10) 1)) (Mj m 1 (Hf 1 m) 1000000)) (MN (RE l) 1) (λ m=>OX m (rD l) (Oj (RE l) m fV) (FY (RE l) m) (Ap 1) (IU (RE l) m) (ZU fV) 1000000) DC (Oa (λ m=>UX m 2 SF m m m)))) (mB (ZF l) (YF l j) (nK (BE l)) (ON (BE l) (Xk l)) (bA l) 19)))) (IJ (λ l=>AJ (AP (EQ l k) (IL (Ch l)) tQ (On (AG (λ m=>Vz m (Ch l) (CU (MC l) m) (Hf 1 (AT m)))) (FB (Hj l)) DC (Oa (λ m=>UX m 2 SF m m m)))) (QW l) (QZ l j))))) (AGT (λ k=>Fb (OE (ZF k) (YF k j) 2 (BE k) (EP (BE k) (Xk k))) (BE k) (Fd k) (EG (Nl (Y8 (BE k) 2) Ir tN (UU k) 16) (KT (RU (cJ k)) (Tt (cJ k) 9)) (And (VI (Nr k) 4 aC 32) (qC (λ l=>JH (We (VY l) k) (EQ (BE l) (BE k)) AC (WN (ED (UU l) (UU k)) AC (MN (RE l) (UQ (Nr k))) (EO (λ m=>QA m (UU l) (Hf (UU l) m) (Nv m (BE k) (Hf (BE k) m) (oO (-10) (BE k))) (Mj m (BE k) (Hf (BE k) m) 1000000)) (MN (RE l) (UQ (Nr k))) (λ m=>OX m (rD l) (Oj (RE l) m (HV m (Nr k) (IN (VD k) m) (cJ k))) (FY (RE l) m) (HV m (Nr k) (FY (VD k) m) (Ap (BE k))) (IU (RE l) m) (Nv m (Nr k) (IU (VD k) m) (ZU (cJ k))) (Mj m (Nr k) (IU (VD k) m) 1000000)) DC (Oa (λ m=>UX m 2 SF m m m)))) (mB (ZF l) (YF l j) (nK (BE l)) (ON (BE l) (Xk l)) (bA l) (bA k))))) (qC (λ l=>JH (We (VY l) k) (EQ (BE l) (BE k)) AC (WN (ED (UU l) (UU k)) AC (MN (RE l) (Nr k)) (EO (λ m=>QA m (UU l) (Hf (UU l) m) (Nv m (BE k) (Hf (BE k) m) (oO (-10) (BE k))) (Mj m (BE k) (Hf (BE k) m) 1000000)) (MN (RE l) (Nr k)) (λ m=>Mm m (RE l) (IN (VD k) m) (FY (VD k) m) (IU (VD k) m)) DC (Oa (λ m=>UX m 2 SF m m m)))) (mB (ZF l) (YF l j) (nK (BE l)) (ON (BE l) (Xk l)) (bA l) (bA k))))) (IJ (λ l=>AJ (IP (We l k) (ED (Ch l) (BE k)) (BM (BE k)) (λ m=>Vz m (Ch l) (CU (MC l) m) (Hf (BE k) (AT m))) (ED (Hj l) (Nr k)) (BM (Nr k)) (AG (λ m=>jI m (Hj l) (AS (EJ (MC l) m) (IN (VD k) (AT m))) (EC (MC l) m) (FY (VD k) (AT m)) (CY (MC l) m) (IU (VD k) (AT m)))) DC (Oa (λ m=>UX m 2 SF m m m))) (QW l) (QZ l j)))))) (Zc (λ k=>SM)))))) := by kernel_rfl
def BFC (w : One) : Prop := L12 39
theorem BLQ (w : One) : (BFC w) = (AG (λ i=>ACZ i 18 (MH (AG (λ j=>Bj (QW j) (QZ j i) SM)) (λ j=>VK (VR (QW j) (QZ j i) 1 j) (ARW (AGT (λ k=>VK (mB (ZF k) (YF k i) (nK (BE k)) (ON (BE k) (Xk k)) (bA k) 19) (qC (λ l=>kE (AP (We (VY l) k) (AU (BE l) (BE k)) AC (WN (ED (BE l) (UU k)) AC (MN (VD l) (rD k)) (EO (λ m=>Gf m (BE l) (smG (BE l)) (smG (UU k)) m) (MN (VD l) (rD k)) (λ m=>Mm m (VD l) (IN (RE k) m) (FY (RE k) m) (IU (RE k) m)) DC (Oa (λ m=>UX m 2 SF m m m))))) (OE (ZF l) (YF l i) 2 (BE l) (EP (BE l) (Xk l))) 18 (BE l) 19)))))) (AGT (λ j=>VK (OE (ZF j) (YF j i) 2 (BE j) (EP (BE j) (Xk j))) (ARW (AGT (λ k=>VK (mB (ZF k) (YF k i) (nK (BE k)) (ON (BE k) (Xk k)) (bA k) (bA j)) (qC (λ l=>CB (AP (We (VY l) k) (AU (BE l) (BE k)) AC (WN (ED (BE l) (UU k)) AC (MN (VD l) (rD k)) (EO (λ m=>Gf m (BE l) (smG (BE l)) (smG (UU k)) m) (MN (VD l) (rD k)) (λ m=>Mm m (VD l) (IN (RE k) m) (FY (RE k) m) (IU (RE k) m)) DC (Oa (λ m=>UX m 2 SF m m m))))) (OE (ZF l) (YF l i) 2 (BE l) (EP (BE l) (Xk l))) 18 (BE l) (BE j))))))))))) := by kernel_rfl
def BHR (w : One) : Prop := L12 43
abbrev AFC:=@max Nat Nat.instMax
abbrev FD a:=AWQ (UR a)
abbrev CZ a:=MC (UR a)
abbrev RK a:=AM (CZ a)
abbrev JZ a:=smW (BE a)
abbrev UA a:=PM (JZ a)
abbrev CS a:=MC (VY a)
abbrev Hq a:=AM (CS a)
attribute [go_sem] AFC FD CZ RK JZ UA CS Hq
theorem BKM (w : One) : (BHR w) = (AG (λ i=>ACZ i 18 (Gx (AG (λ j=>RB (And (QW j) (QZ j i)) (IJ (λ k=>AJ (AP (EQ k j) (XQ 2) (ED (Ch k) (Ch j)) (EO (λ l=>Ip l (Ch k) (CU (MC k) l) (MC j) l (MC j) l) (ED (Hj k) (Hj j)) (λ l=>OR l (Hj k) (QJ (EJ (MC k) l) (MC j) l) (EC (MC k) l) (MC j) l (CY (MC k) l) l) DC (Oa (λ l=>UX l 2 SF l l l)))) (QW k) (QZ k i))) (AG (λ k=>RB (And (QW k) (QZ k i)) (qC (λ l=>AAB (AP (EQ (VY l) k) (pZ (BE l) 2) (Mu (CS l) (Ch k)) (EO (λ m=>Ip m (AY (CS l)) (CU (CS l) m) (MC k) m (MC k) m) (ED (Hq l) (Hj k)) (λ m=>OR m (Hq l) (QJ (EJ (CS l) m) (MC k) m) (EC (CS l) m) (MC k) m (CY (CS l) m) m) DC (K2 (MN (JZ l) 2) (λ m=>Mm m (JZ l) (IN SF m) (FY SF m) (IU SF m))))) (ZF l) (YF l i) 2 (BE l) (BE l) (AFC (VY l) 2))) (AGT (λ l=>CG (OE (ZF l) (YF l i) 2 (BE l) (EP (BE l) (AFC (VY l) 2))) (BE l) (VY l) (And (Gx Wc (VI (UA l) 4 aC 32)) (qC (λ m=>CB (AP (We (VY m) l) (AU (BE m) (BE l)) (Mu (CS m) (AY (CS l))) (EO (λ n=>Ip n (AY (CS m)) (CU (CS m) n) (CS l) n (CS l) n) (ED (Hq m) (Hq l)) (λ n=>OR n (Hq m) (QJ (EJ (CS m) n) (CS l) n) (EC (CS m) n) (CS l) n (CY (CS m) n) n) DC (K2 (MN (JZ m) (UQ (UA l))) (λ n=>OX n (UA m) (Oj (JZ m) n (HV n (UA l) (IN (JZ l) n) (Sa (BE l) 3))) (FY (JZ m) n) (HV n (UA l) (FY (JZ l) n) (kF (Io (BE l) 1) 3)) (IU (JZ m) n) (Nv n (UA l) (IU (JZ l) n) (ZU (cJ l))) (Mj n (UA l) (IU (JZ l) n) (cJ l)))))) (OE (ZF m) (YF m i) 2 (BE m) (EP (BE m) (AFC (VY m) 2))) 18 (BE m) (BE l)))) (And (JH (IV (Fd l)) (AR (Fd l)) (Ci (Fd l)) (Bw (Ur (BT 8) (Fd l))) (APV (λ m=>AJ (LQ (We (UR m) l) (FI (ZW m) (TR (Fd l))) (BM (TR (Fd l))) (λ n=>FL n (ZW m) 0) (XI (Mu (CZ m) (AY (CS l))) (λ n=>Ip n (AY (CZ m)) (CU (CZ m) n) (CS l) n (CS l) n) (ED (RK m) (Hq l)) (λ n=>OR n (RK m) (QJ (EJ (CZ m) n) (CS l) n) (EC (CZ m) n) (CS l) n (CY (CZ m) n) n) (Mu (FD m) 3) (AG (λ n=>Vz n (AY (FD m)) (CU (FD m) n) (ES smT n))) (ED (AM (FD m)) (UA l)) (BM (UA l)) (AG (λ n=>jI n (AM (FD m)) (AS (EJ (FD m) n) (IN (JZ l) (AT n))) (EC (FD m) n) (FY (JZ l) (AT n)) (CY (FD m) n) (IU (JZ l) (AT n)))))) (QW (UR m)) (QZ (UR m) i)))) (AYK (λ m=>Bj (QW (UR m)) (QZ (UR m) i) (AJ (JH (Ft (RK m)) (PB (CZ m)) (Ci (BT (RK m))) (Bw (iN (BT 8) (RK m))) (ZQ (CZ m) (CZ m) (CZ m) (CZ m) (SH (FI (UM (RK m) (λ n=>0)) (RK m)) (BM (RK m)) (AG (λ n=>FL n (UM (RK m) (λ u=>0)) 0)) (DB (ZW m)) (λ n=>FW n (HQ (ZW m)) (ZW m)) (PF (SJ (CZ m) (EF (DE (CZ m)) (λ n=>HW n (CZ m)) VL (DB (ZW m)) (DN (ZW m))))) (PF (Ko (OB (CZ m)) (CZ m) (DE (CZ m)) (BG (Of (CZ m)) VL (Bi 5 5) SK (AG (λ n=>JV n 1 (UM 1 (λ u=>0)) 0))))) (PF (SJ (FD m) (EF (DE (FD m)) (λ n=>HW n (FD m)) (Bi 1 1) DC (AG (λ n=>JV n 3 (dZ (λ u=>TG u 1 (qK (K7 (WC u 1) 0) 0))) (TG n 1 (qK (K7 (WC n 1) 0) 0))))))) (PF (Ko (OB (FD m)) (FD m) (DE (FD m)) (Zd (Of (FD m)) (AR (WY (Bs m))) (Bi 1 1) AC)))))) (MH (H9 (AY (CZ m))) (λ n=>tX n (RK m)) (VB (not (not (E6 (KS (Qs (CZ m))) (KT (RU (Bs m)) (Tt (Bs m) 9))))) (Xj (AY (FD m)) (FD m)))) (AGH (SD (not (E6 (KS (Qs (CZ m))) (KT (RU (Bs m)) (Tt (Bs m) 9)))) (E6 (KS (Qs (FD m))) (Tt (Bs m) 15))) iG (λ n=>UW (AU n (UR m)) n 18 i)))))))))))) (AG (λ j=>RB (And (QW j) (QZ j i)) (IJ (λ k=>AJ (AP (EQ k j) (XQ 2) (ED (Ch k) (Ch j)) (EO (λ l=>Ip l (Ch k) (CU (MC k) l) (MC j) l (MC j) l) (ED (Hj k) (Hj j)) (λ l=>OR l (Hj k) (QJ (EJ (MC k) l) (MC j) l) (EC (MC k) l) (MC j) l (CY (MC k) l) l) DC (Oa (λ l=>UX l 2 SF l l l)))) (QW k) (QZ k i))) (AG (λ k=>RB (And (QW k) (QZ k i)) (qC (λ l=>AAB (AP (EQ (VY l) k) (pZ (BE l) 2) (Mu (CS l) (Ch k)) (EO (λ m=>Ip m (AY (CS l)) (CU (CS l) m) (MC k) m (MC k) m) (ED (Hq l) (Hj k)) (λ m=>OR m (Hq l) (QJ (EJ (CS l) m) (MC k) m) (EC (CS l) m) (MC k) m (CY (CS l) m) m) DC (K2 (MN (JZ l) 2) (λ m=>Mm m (JZ l) (IN SF m) (FY SF m) (IU SF m))))) (ZF l) (YF l i) 2 (BE l) (BE l) (AFC (VY l) 2))) (AGT (λ l=>CG (OE (ZF l) (YF l i) 2 (BE l) (EP (BE l) (AFC (VY l) 2))) (BE l) (VY l) (And (Gx Wc (VI (UA l) 4 aC 32)) (qC (λ m=>CB (AP (We (VY m) l) (AU (BE m) (BE l)) (Mu (CS m) (AY (CS l))) (EO (λ n=>Ip n (AY (CS m)) (CU (CS m) n) (CS l) n (CS l) n) (ED (Hq m) (Hq l)) (λ n=>OR n (Hq m) (QJ (EJ (CS m) n) (CS l) n) (EC (CS m) n) (CS l) n (CY (CS m) n) n) DC (K2 (MN (JZ m) (UQ (UA l))) (λ n=>OX n (UA m) (Oj (JZ m) n (HV n (UA l) (IN (JZ l) n) (Sa (BE l) 3))) (FY (JZ m) n) (HV n (UA l) (FY (JZ l) n) (kF (Io (BE l) 1) 3)) (IU (JZ m) n) (Nv n (UA l) (IU (JZ l) n) (ZU (cJ l))) (Mj n (UA l) (IU (JZ l) n) (cJ l)))))) (OE (ZF m) (YF m i) 2 (BE m) (EP (BE m) (AFC (VY m) 2))) 18 (BE m) (BE l)))) (And (JH (IV (Fd l)) (AR (Fd l)) (Ci (Fd l)) (Bw (Ur (BT 8) (Fd l))) (APV (λ m=>AJ (LQ (We (UR m) l) (FI (ZW m) (TR (Fd l))) (BM (TR (Fd l))) (λ n=>FL n (ZW m) 0) (XI (Mu (CZ m) (AY (CS l))) (λ n=>Ip n (AY (CZ m)) (CU (CZ m) n) (CS l) n (CS l) n) (ED (RK m) (Hq l)) (λ n=>OR n (RK m) (QJ (EJ (CZ m) n) (CS l) n) (EC (CZ m) n) (CS l) n (CY (CZ m) n) n) (Mu (FD m) 3) (AG (λ n=>Vz n (AY (FD m)) (CU (FD m) n) (ES smT n))) (ED (AM (FD m)) (UA l)) (BM (UA l)) (AG (λ n=>jI n (AM (FD m)) (AS (EJ (FD m) n) (IN (JZ l) (AT n))) (EC (FD m) n) (FY (JZ l) (AT n)) (CY (FD m) n) (IU (JZ l) (AT n)))))) (QW (UR m)) (QZ (UR m) i)))) (AYK (λ m=>Bj (QW (UR m)) (QZ (UR m) i) (AJ (JH (Ft (RK m)) (PB (CZ m)) (Ci (BT (RK m))) (Bw (iN (BT 8) (RK m))) (ZQ (CZ m) (CZ m) (CZ m) (CZ m) (SH (FI (UM (RK m) (λ n=>0)) (RK m)) (BM (RK m)) (AG (λ n=>FL n (UM (RK m) (λ u=>0)) 0)) (DB (ZW m)) (λ n=>FW n (HQ (ZW m)) (ZW m)) (PF (SJ (CZ m) (EF (DE (CZ m)) (λ n=>HW n (CZ m)) VL (DB (ZW m)) (DN (ZW m))))) (PF (Ko (OB (CZ m)) (CZ m) (DE (CZ m)) (BG (Of (CZ m)) VL (Bi 5 5) SK (AG (λ n=>JV n 1 (UM 1 (λ u=>0)) 0))))) (PF (SJ (FD m) (EF (DE (FD m)) (λ n=>HW n (FD m)) (Bi 1 1) DC (AG (λ n=>JV n 3 (dZ (λ u=>TG u 1 (qK (K7 (WC u 1) 0) 0))) (TG n 1 (qK (K7 (WC n 1) 0) 0))))))) (PF (Ko (OB (FD m)) (FD m) (DE (FD m)) (Zd (Of (FD m)) (AR (WY (Bs m))) (Bi 1 1) AC)))))) (MH (H9 (AY (CZ m))) (λ n=>tX n (RK m)) (VB (not (not (E6 (KS (Qs (CZ m))) (KT (RU (Bs m)) (Tt (Bs m) 9))))) (Xj (AY (FD m)) (FD m)))) (AGH (SD (not (E6 (KS (Qs (CZ m))) (KT (RU (Bs m)) (Tt (Bs m) 9)))) (E6 (KS (Qs (FD m))) (Tt (Bs m) 15))) iG (λ n=>UW (AU n (UR m)) n 18 i))))))))))))))) := by kernel_rfl
theorem BHE (n m : Nat) : minI (n : Int) (m : Int) = ((min n m : Nat) : Int) := by unfold minI; split <;> omega
theorem AOU (n : Nat) : minI (n : Int) 10 = ((min n 10 : Nat) : Int) := BHE n 10
theorem BKZ (n : Nat) : (smG n).length = n := by simp [smG]
theorem smLg (n : Nat) : (oM n).g.length = min n 10 := BKZ _
theorem smLr (n : Nat) : (oM n).r.length = smK (min n 10) := Ee _
theorem AFG {m i : Nat} (hi : i < m + 1) : (gD (smG (m + 1)) i).lo = (bif decide (i < m) then (gD (smG m) i).lo else IntKind.i64.wrap (-10 * (m : Int))) /\ (gD (smG (m + 1)) i).hi = bif decide (i < m) then (gD (smG m) i).hi else 1000000 := by
 rw [AYE hi]
 by_cases h : i < m
 ·rw [AYE h]; simp [h]
 ·have : i = m := by omega
  subst this; simp
theorem BNW (w : One) : BIG w := by
 rw [BKT]<;> simp only [go_sem]; simp only [CC, eq_self, implies_true, forall_const]
 refine ⟨⟨0, rfl, by omega⟩, λ a ha => ⟨λ h => ⟨⟨a, ⟨rfl, by omega, λ j hj => ⟨rfl, rfl⟩, λ i hi => ?_⟩, Int.ofNat_lt.1 h, rfl⟩, λ n hn => ⟨λ h => ⟨by simp, n, ⟨rfl, rfl, λ i hi => ?_⟩, ⟨hn.1, hn.2, ?_⟩, by omega⟩, λ h => ⟨n, ⟨rfl, ?_⟩, hn⟩⟩,
  λ n hn => ⟨λ h => ⟨by simp, by simp, ⟨n, 1⟩, ⟨rfl, rfl, rfl, rfl, rfl, λ i hi => ?_, rfl, λ i hi => ?_⟩, hn.1, hn.2.1, by simp, ?_⟩, λ h => ⟨n, ⟨rfl, ?_⟩, hn.1, hn.2.1⟩⟩,
  λ x hx => ⟨λ h => ⟨?_, λ h2 => ⟨?_, ⟨x.n, x.i⟩, ⟨rfl, rfl, rfl, ?_, rfl, λ i hi => AFG hi, ?_, λ i hi => ?_⟩, hx.1, hx.2.1, ?_, ?_⟩, λ h2 => ⟨⟨x.n, x.i⟩, ⟨rfl, rfl, rfl, ?_, rfl, λ i hi => AFG hi, ?_, λ i hi => ?_⟩, hx.1, hx.2.1, ?_, ?_⟩⟩, λ h => ⟨x.n, ⟨rfl, ?_⟩, hx.1, hx.2.1⟩⟩⟩, λ _ => ⟨default, trivial⟩⟩⟩
 all_goals try simp only [AOU] at h
 ·match i, hi with
  | 0, _ => exact ⟨rfl, rfl, rfl, rfl⟩
  | 1, _ => exact ⟨rfl, rfl, rfl, rfl⟩
 ·match i, hi with
  | 0, _ => exact ⟨rfl, rfl⟩
 ·omega
 ·have : n = 0 := by omega
  subst this; exact ⟨rfl, rfl, rfl⟩
 ·exact AFG hi
 ·have : i = 0 := by rw [Ee] at hi; simp [smK] at hi; omega
  subst this; exact ⟨rfl, rfl, rfl, rfl⟩
 ·exact ⟨by show 1 < min n 10; omega, by simp⟩
 ·have : n = 1 := by omega
  subst this; exact ⟨rfl, by omega, λ _ _ => ⟨rfl, rfl⟩, rfl⟩
 ·simp; omega
 ·rw [Ee]; simp [smK]; omega
 ·simp only [Ee]; exact ACQ (by omega) (by simp at h2; omega)
 ·simp only [Ee]; exact ACQ (by omega) (by simp at h2; omega)
 ·have hk := ACQ (i := x.i) (by omega) (by simp at h2; omega)
  have hk2 : smK x.i = x.i - 1 := by simp at h2; unfold smK; omega
  simp only [Ee] at hi ⊢
  rw [APJ hi]
  by_cases h3 : i < smK x.i
  ·rw [APJ h3]; simp [h3]
  ·have : i = x.i - 1 := by omega
   subst this
   have e : ((x.i - 1 : Nat) : Int) = (x.i : Int) - 1 := by omega
   simp only [h3, decide_false, cond_false, e]
   rw [Gp (by omega) (by omega), Gp (by omega) (by omega)]
   refine ⟨by omega, rfl, by omega, trivial⟩
 ·show 0 < x.i; omega
 ·exact ⟨by show x.i < min x.n 10; omega, by simp⟩
 ·simp only [Ee]; exact W5 (by simp at h2; omega)
 ·simp only [Ee]; exact W5 (by simp at h2; omega)
 ·have hk := W5 (i := x.i) (by simp at h2; omega)
  simp only [hk]; exact ⟨trivial, trivial, trivial, trivial⟩
 ·show 0 < x.i; omega
 ·exact ⟨by show x.i < min x.n 10; omega, by simp⟩
 ·have : x.i = min x.n 10 := by omega
  refine ⟨by rw [smLg, this], by omega, λ j hj => ?_, by rw [smLr, Ee, this], by omega, λ j hj => ?_⟩
  ·rw [this]; exact ⟨rfl, rfl⟩
  ·rw [this]; exact ⟨rfl, rfl, rfl, rfl⟩
theorem BOP (w : One) : BFC w := by
 rw [BLQ]<;> simp only [go_sem]; simp only [CC, eq_self, implies_true, forall_const]
 refine λ a ha => ⟨λ n hn x hx => ⟨⟨x.n, x.i + 1⟩, ⟨rfl, ?_, rfl, rfl, rfl, λ _ _ => ⟨rfl, rfl⟩, rfl, λ _ _ => ⟨rfl, rfl, rfl, rfl⟩⟩, ⟨hx.1, hx.2.1, ?_, ?_⟩, ?_⟩, λ n hn x hx => ⟨⟨x.n, x.i + 1⟩, ⟨rfl, ?_, rfl, rfl, rfl, λ _ _ => ⟨rfl, rfl⟩, rfl, λ _ _ => ⟨rfl, rfl, rfl, rfl⟩⟩, ⟨hx.1, hx.2.1, ?_, ?_⟩, ?_⟩⟩
 all_goals try simp only
 all_goals first | omega | (rw [AL (by omega)])
theorem BJM {m i : Nat} (h2 : 2 <= m) (hm : m < 18) (hi : i < m + 1) : ((gD (smW (m + 1)) i).fr = bif decide (i < m) then (gD (smW m) i).fr else (m : Int).tmod 3) /\ ((gD (smW (m + 1)) i).to = bif decide (i < m) then (gD (smW m) i).to else (IntKind.i64.wrap ((m : Int) + 1)).tmod 3) /\
  ((gD (smW (m + 1)) i).sp.lo = bif decide (i < m) then (gD (smW m) i).sp.lo else IntKind.i64.wrap (-(m : Int))) /\ (gD (smW (m + 1)) i).sp.hi = bif decide (i < m) then (gD (smW m) i).sp.hi else (m : Int) := by
 rw [BBK hi]
 by_cases h : i < m
 ·rw [BBK h]; simp [h]
 ·have : i = m := by omega
  subst this
  rw [if_neg (by omega), if_neg (by omega)]; simp [wr]
theorem chkN (N : NetL) : QB (Net.mk N.g.length (λ i => gD N.g i) N.r.length λ i => gD N.r i) = AB N := rfl
theorem BNC (w : One) : BHR w := by
 rw [BKM]<;> simp only [go_sem]; simp only [CC, eq_self, implies_true, forall_const]
 refine λ a ha n hn => ⟨⟨n, ⟨rfl, rfl, λ _ _ => ⟨rfl, rfl⟩, rfl, λ _ _ => ⟨rfl, rfl, rfl, rfl⟩⟩, hn⟩, λ m hm => ⟨⟨⟨m, 2⟩, ⟨rfl, rfl, rfl, λ _ _ => ⟨rfl, rfl⟩, rfl, λ _ _ => ⟨rfl, rfl, rfl, rfl⟩, rfl, rfl, λ _ _ => ⟨rfl, rfl, rfl, rfl⟩⟩, hm.1, hm.2, by simp, Nat.le_max_right _ _⟩, λ x hx =>
  ⟨λ h => ⟨?_, ⟨x.n, x.i + 1⟩, ⟨rfl, ?_, rfl, λ _ _ => ⟨rfl, rfl⟩, rfl, λ _ _ => ⟨rfl, rfl, rfl, rfl⟩, ?_, ?_, λ i hi => ?_⟩, ⟨hx.1, hx.2.1, ?_, ?_⟩, ?_⟩,
  λ h => ⟨⟨?_, ⟨x.n, default, NO (min x.n 10) λ _ => 0⟩, ⟨rfl, ?_, by omega, λ j hj => ?_, rfl, λ _ _ => ⟨rfl, rfl⟩, rfl, λ _ _ => ⟨rfl, rfl, rfl, rfl⟩, rfl, λ _ _ => ⟨rfl, rfl⟩, ?_, by omega, λ j hj => ?_⟩, hx.1, hx.2.1⟩, λ y hy => ⟨?_, λ h2 => ?_, λ _ => ⟨y.n + 1, ?_, ?_, ?_⟩⟩⟩⟩⟩⟩
 ·rw [S6]; simp; omega
 ·rw [AL (by omega)]
 ·simp only [S6]
 ·simp only [S6]
 ·simp only [S6] at hi ⊢; exact BJM (by omega) (by omega) hi
 ·show 1 < x.i + 1; omega
 ·show x.i + 1 <= max x.n 2; omega
 ·show 18 - (x.i + 1) < 18 - x.i; omega
 ·rw [AOU]; omega
 ·rw [AOU]; simp
 ·exact CO _ _ _ (by simpa using hj)
 ·have : x.i = max x.n 2 := by omega
  rw [this]; rfl
 ·have : x.i = max x.n 2 := by omega
  rw [this]; exact ⟨rfl, rfl, rfl, rfl⟩
 ·rw [smLr]
  have hk : smK (min y.n 10) <= 8 := by unfold smK; omega
  simp [Gm, CO]
  exact ⟨by omega, λ j hj => CO _ _ _ hj⟩
 ·simp only [chkN, BDN _ hy.1, BDM _ hy.1] at h2
  have e1 : ((y.n : Int) < 9) ↔ y.n < 9 := by omega
  have e2 : ((y.n : Int) < 15) ↔ y.n < 15 := by omega
  simp [e1, e2] at h2
 ·rw [AL (by omega)]
 ·omega
 ·omega
end Go.Bal

namespace Go.Bal
open Go Go.Sym Go.Proofs
def BFH (w : One) : Prop := L12 52
theorem BLB (w : One) : (BFH w) = (Va (λ i=>RB SM ((@Exists NetL) (λ j=>Bm (cB (AY j)) (EF Ej (λ k=>QA k (AY j) (CU j k) (qK (K7 (AT k) 0) 1000000) (qK (K7 (AT k) 0) 1000000)) (IL (AM j)) tQ (AG (λ k=>OX k (AM j) (GP (EJ j k)) (EC j k) 1 (CY j k) (-1000000) (-1000000)))) SM)) (BIL (λ j=>RB SM (ZQ j j j j (IP (Bi 2000000 2000000) JN Ej (λ k=>JV k 2 (UM 2 (λ l=>qK (K7 l 0) 1)) (qK (K7 (AT k) 0) 1)) (PF (SJ j (EF (DE j) (λ k=>HW k j) (Bi 4000000 4000000) JN (AG (λ k=>JV k 2 (UM 2 (λ l=>TG l 1 0)) (TG k 1 0)))))) (PF (Ko (OB j) j (DE j) (On (Of j) VL SK (AG (λ k=>JV k 1 (UM 1 (λ l=>1)) 1))))) (PF (BF (oB (BAA AC AC)))) (PF (oB (AZB AC BX AC))) (PF (BF (oB (AZA AC BX AC)))))) VS)))) := by kernel_rfl
theorem BNZ (w : One) : BFH w := by
 rw [BLB]<;> simp only [go_sem]; simp only [CC, eq_self, implies_true, forall_const]
 exact ⟨⟨⟨NO 2 λ j => ⟨bif decide (j = 0) then 1000000 else 1000000, bif decide (j = 0) then 1000000 else 1000000⟩, [⟨0, 1, ⟨-1000000, -1000000⟩⟩]⟩, by simp [Ey, CO], by simp, by simp [Ey, CO], rfl, by simp, λ j hj => by
  have : j = 0 := by simpa using hj
  subst this; exact ⟨rfl, rfl, rfl, rfl⟩⟩, by simp [Ey, CO]⟩
end Go.Bal

namespace Go.Bal
open Go Go.Sym Go.Proofs
def LN (n : Nat) : Prop := FA Try.prog A12 pS 12 (M4 n) (AF Try.f12) [] Q3
theorem BNM (n : Nat) (h : n < 24) : LN n := match n, h with
 | 0, _ => BQI default
 | 1, _ => BRM default
 | 2, _ => BQS default
 | 3, _ => BQH default
 | 4, _ => BQM default
 | 5, _ => BRK default
 | 6, _ => BQU default
 | 7, _ => BQL default
 | 8, _ => BQY default
 | 9, _ => BQN default
 | 10, _ => BNQ default
 | 11, _ => BNG default
 | 12, _ => BOU default
 | 13, _ => BNB default
 | 14, _ => BNP default
 | 15, _ => BOH default
 | 16, _ => BNV default
 | 17, _ => BOL default
 | 18, _ => BNO default
 | 19, _ => BOV default
 | 20, _ => BNU default
 | 21, _ => BOT default
 | 22, _ => BNY default
 | 23, _ => BNS default
 | n + 24, h => absurd h (by omega)
theorem BOF : L12 12 := by
 refine BCP (I := Fin 24) (λ i => M4 i.val) _ (λ L y gs Q hL h => ?_) _ _ _ λ i => BNM i.val i.isLt
 obtain rfl : [sm12 (gs.getD 0 0) (gs.getD 1 0)] = L := Option.some.inj hL
 intro s hs
 have := h ⟨s.n, hs.2.2.1⟩ s.i s.N hs.1 hs.2.1 hs.2.2.1 hs.2.2.2
 exact this
theorem BJQ {k : Nat} (h : pS k = true) : k = 12 ∨ k = 13 ∨ k = 21 ∨ k = 31 ∨ k = 33 ∨ k = 39 ∨ k = 43 ∨ k = 52 := by
 simp only [pS, Bool.or_eq_true, GV] at h; exact h
theorem BLS (k : Nat) (h : pS k = true) : L12 k := by
 rcases BJQ h with rfl | rfl | rfl | rfl | rfl | rfl | rfl | rfl
 ·exact BOF
 ·exact BND default
 ·exact BON default
 ·exact BOW default
 ·exact BNW default
 ·exact BOP default
 ·exact BNC default
 ·exact BNZ default
theorem fntS {A : Ann} {S : Nat -> Bool} {g : FuncId} {fn : Func} {xs : List AVal} {L : List (Nat × AObj)} {val : AVal} {keep : List (Nat × HCell)} {ren : List (Nat × Nat)} {fz : List Nat} (hf : Try.prog.funcs[g]? = some fn) (hok : okFn A fn xs L keep = true)
  (hΓ : GOk Try.prog A.Γ) (hl : ∀ k, S k = true -> FA Try.prog A S k (stdF Try.prog A S) (AF fn) [] (endQ Try.prog A fn val keep ren fz)) (h : AXZ Try.prog A S fn (AF fn) xs (AD L) val keep ren fz) (hI : bK Try.prog A := by exact WR rfl rfl) : FnT Try.prog g xs (AD L) val keep := by
 simp only [okFn, Bool.and_eq_true, Bool.not_eq_true', beq_iff_eq, GV, Nat.ble_eq, Option.isSome_iff_exists] at hok
 obtain ⟨⟨⟨⟨⟨h1, code, h2⟩, h3⟩, h4⟩, h5⟩, h6⟩ := hok
 refine FnT.of_vcS hΓ hI APY hf h1 h2 ⟨h3, h4⟩ h5 h6 (S := S) (ren := ren) (fz := fz) (λ k h1 _ => ?_) (by unfold AF at h; rw [h2] at h; exact h)
 have := hl k h1
 unfold AF at this; rw [h2] at this; exact this
theorem BQC : GOk Try.prog A12.Γ := AA BPU (AA ok50 (AA ok9b (AA ok3b (AA ok7b (AA R7 (AA ok14 AE))))))
theorem c12 : FnT Try.prog 12 [] (AD []) (.bool true) [] := fntS (A := A12) (S := pS) (ren := []) (fz := []) Try.func12 (by kernel_rfl) BQC BLS (p12 default)
end Go.Bal
