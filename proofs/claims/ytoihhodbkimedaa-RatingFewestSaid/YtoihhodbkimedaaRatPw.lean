/- Package rating: Proves, fewer than 20 knots. -/
import Derived.Test.YtoihhodbkimedaaRatPv
import Derived.Test.YtoihhodbkimedaaSym10
set_option linter.unusedVariables false
set_option linter.unusedSimpArgs false
namespace Go.Bal
open Go Go.Sym Go.Proofs
structure PV where
 g : List Gau
 m : Int
 k : List (List Int)
 o : Bool
def jU (a : PV) : List (List Gau) := a.k.map λ z => Ij ⟨a.g, z⟩
def Ig (a : PV) : List (List Gau) := (Je (jU a)).map λ x => gD (jU a) x.toNat
def pvN (a : PV) : Bool := a.k.all λ z => (Vh ⟨a.g, z⟩).2
def bI (a : PV) : Int := bif AZ a.g == 0 then (bif decide (a.k.length > 24) then 3 else bif pvN a then 0 else 2) else AZ a.g
def badP (T : List (List Gau)) (i : Nat) : Bool := bif (CS (gD T i)).2 then true else bif decide ((i : Int) > 0) then decide ((gD (gD T (i - 1)) ((gD T (i - 1)).length - 1)).st > (gD (gD T i) 0).st) else false
def pW (T : List (List Gau)) : Nat -> Nat -> Bool
 | 0, _ => true
 | n + 1, i => bif badP T i then false else pW T n (i + 1)
def lT (a : PV) : Bool := bif bI a == 0 then (bif pW (Ig a) (Ig a).length 0 then decide (a.m <= wr (a.k.length + 1)) else false) else false
def eLLd (a : PV) : AVal := .d (eLL a.k)
def pvV (a : PV) : AVal := .tup [.bool (lT a), .int (bI a)]
def pv8n (a : PV) : Shape := { α := One, dflt := default, T := λ _ => ⟨[(0, .d (DX a.g)), (1, .int a.m), (2, eLLd a), (9, .d VG), (24, eLLd a), (25, .int a.k.length), (26, .int 0)], []⟩, inv := λ _ => AZ a.g = 0 /\ a.k.length <= 24 /\ 0 < a.k.length, meas := λ _ => a.k.length + 1 }
def pv8o (a : PV) : Shape := { α := Nat, dflt := 0, T := λ i => ⟨[(0, .d (DX a.g)), (1, .int a.m), (2, eLLd a), (9, .own 201 1 0 i), (24, eLLd a), (25, .int a.k.length), (26, .int i)], [(201, .live (.row 1 i λ j => DX (Ij ⟨a.g, gD a.k j⟩)))]⟩, inv := λ i => AZ a.g = 0 /\ a.k.length <= 24 /\ 1 <= i /\ i <= a.k.length /\ ∀ j, j < i -> (Vh ⟨a.g, gD a.k j⟩).2 = true, meas := λ i => a.k.length - i, again := [(201, 14048)] }
def CHQ (a : PV) : Shape := { α := One, dflt := default, T := λ _ => ⟨[(1, .int a.m), (2, eLLd a), (9, .own 201 1 0 (jU a).length)], [(201, .live (Z6 (jU a)))]⟩, inv := λ _ => AZ a.g = 0 /\ a.k.length <= 24 /\ pvN a = true, meas := λ _ => 0 }
def CGO (a : PV) : Shape := { α := One, dflt := default, T := λ _ => ⟨[(1, .int a.m), (2, eLLd a), (9, .own 201 1 0 (Ig a).length)], [(201, .live (Z6 (Ig a)))]⟩, inv := λ _ => AZ a.g = 0 /\ a.k.length <= 24 /\ pvN a = true, meas := λ _ => 0 }
def CGP (a : PV) : Shape := { α := Nat, dflt := 0, T := λ i => ⟨[(1, .int a.m), (2, eLLd a), (9, .own 201 1 0 (Ig a).length), (45, .own 201 1 0 (Ig a).length), (46, .int (Ig a).length), (47, .int i)], [(201, .live (Z6 (Ig a)))]⟩, inv := λ i => AZ a.g = 0 /\ a.k.length <= 24 /\ pvN a = true /\ i <= (Ig a).length /\ pW (Ig a) (Ig a).length 0 = pW (Ig a) ((Ig a).length - i) i, meas := λ i => (Ig a).length - i }
def BZG (a : PV) : Ann := { ann 87 [(mR, C_Check.spec Ch), (uG, C_named.spec dGK), (ASZ, C_ssS.spec dSSt), (Vp, C_isKnot.spec dGsK)] with mt := λ id => id == 13, loops := λ id => if id = 8 then some [pv8n a, pv8o a] else if id = 17 then some [CGP a] else none, cut := λ id => if id = 15 then some [CHQ a] else if id = 16 then some [CGO a] else none }
def BYJ (a : PV) : Prop := CH Try.prog (BZG a) tD (AI tD) [.d (DX a.g), .int a.m, eLLd a] (AD []) (pvV a) [] [] []
abbrev Iv:=PV.g
abbrev Eu:=lT
abbrev Ev:=bI
abbrev LZ a:=NC (PV.k a)
abbrev LN a:=EC (Ig a)
abbrev lQ a:=LW (pvN a)
abbrev Ji a:=Ef (LZ a)
abbrev Ju a:=ZP (Iv a)
abbrev Sv a b:=Li (Ig a) b
abbrev bC a b c:=VA a b (GN c) (λ i=>Ir i c)
abbrev YQ a b:=KX (PV.k a) b
abbrev Zc a:=BO (LZ a)
abbrev nO a:=AK (PV.m a)
abbrev Jv a b:=Sv a (CF b)
abbrev sR a:=not (Xl a)
abbrev Qf a b c:=Ij (Iq (Iv a) (YQ b c))
abbrev qT a b:=LW (Tr a b)
abbrev BIV a b c d e f g h:=AQ a b c d a e f g h
abbrev Ea a b:=QK (YQ a b)
abbrev Jl a:=AU (Iv a)
attribute [go_sem] Iv Eu Ev LZ LN lQ Ji Ju Sv bC YQ Zc nO Jv sR Qf qT BIV Ea Jl
theorem CDR (a : PV) : (BYJ a) = (BC (YN (Iv a) (Iv a) (FW (Jl a))) (Gt (Jl a)) (Mj (Eu a) (Ev a) (Io (Jl a))) (FA (ZR (BK (LZ a)) 24) (Mj (Eu a) (Ev a) 3) (PF (WH (λ i=>AH (AE (AS (Iv a)) (CB (Iv a)) (gK (nO a) (Zc a) (AG (λ j=>bC j (LZ a) (YQ a j))) AC BM (FI (LZ a)) BA)) (Ju a) (Ji a) (IK (LZ a)))) (NR (λ i=>EZ (CJ (Ju a) (Ji a) 0 (LZ a)) 0 (BK (LZ a)) (HM (WW (BK (LZ a))) (AY (BR (Iv a)) (BW (Iv a)) (CO (Ea a LJ) (YQ a LJ)) (AG (λ j=>FC j (Ea a 0) (Ea a LJ) j (YQ a LJ))) (MR (Jl a)) (RD (Ea a 0))) (not (Tr (Jl a) (Ea a LJ))) (Mj (Eu a) (Ev a) 2) (And (Zj 24) (SA (λ j=>Ns (AJ (AS (Iv a)) (CB (Iv a)) (nO a) (Zc a) (BIV (AG (λ k=>bC k (LZ a) (YQ a k))) AC (HC j) (Zc a) (FI (LZ a)) (JE j 0) (HC j) (AG (λ k=>WR k j (Qf a a k) (fF (Jl a) (Ea a LJ)))))) (IE (Ju a) (Ji a) (QW j) j (LZ a) (AG (λ k=>AP k j (qT (Iv a) (YQ a k))))) (LZ a) j (KF (LZ a)))))) WQ)) (AG (λ i=>DH (IE (Ju a) (Ji a) (QW i) i (LZ a) (AG (λ j=>AP j i (qT (Iv a) (YQ a j))))) i (BK (LZ a)) (HM (RX i (LZ a)) (AY (BR (Iv a)) (BW (Iv a)) (CO (Ea a i) (YQ a i)) (CE (Ea a i) (YQ a i)) (MR (Jl a)) (RD (Ea a i))) (not (Tr (Jl a) (Ea a i))) (Mj (Eu a) (Ev a) 2) (And (VC i 1 RZ 24) (SA (λ j=>QU (AJ (AS (Iv a)) (CB (Iv a)) (nO a) (Zc a) (BIV (AG (λ k=>bC k (LZ a) (YQ a k))) AC (IM j i) (Zc a) (FI (LZ a)) (BJ j i) (IM j i) (AG (λ k=>VA k j (CQ (Qf a a k) (Um (Ll k i) (DM (Qf a a k)) (DM (fF (Jl a) (Ea a i))))) (λ l=>CL l (Qf a a k) (DE (Qf a a k) l (JG k i (AX (Qf a a k) l) (AX (fF (Jl a) (Ea a i)) l))) (DG (Qf a a k) l (JG k i (BH (Qf a a k) l) (BH (fF (Jl a) (Ea a i)) l))) (DF (Qf a a k) l (JG k i (BN (Qf a a k) l) (BN (fF (Jl a) (Ea a i)) l)))))))) (IE (Ju a) (Ji a) (QW j) j (LZ a) (AG (λ k=>AP k j (qT (Iv a) (YQ a k))))) (LZ a) j i)))) (WH (λ j=>AH (AE (nO a) (Zc a) (YV (AG (λ k=>bC k (LZ a) (YQ a k))) (AT (EC (jU a)) i) (λ k=>WR k (EC (jU a)) (Li (jU a) k) (Qf a a k)))) (Ju a) (Ji a) (lQ a))))) (NR (λ i=>QF (AE (Ju a) (Ji a) (lQ a)) (And (SO (BAQ (AT (OU (jU a)) (EC (jU a))) (AG (λ j=>WR j (OU (jU a)) (Tt (jU a) j) (Li (jU a) j))) (CM (OU (jU a)) 20) (AG (λ j=>AP j (OU (jU a)) (Pz (Tt (jU a) j)))))) (WH (λ j=>AH (Af (nO a) (Zc a) (AG (λ k=>bC k (LZ a) (YQ a k))) AC (AT (LN a) (EC (jU a))) (AT (LN a) (OU (jU a))) (λ k=>WR k (LN a) (Sv a k) (Le (iJ (jU a)) k))) (Ju a) (Ji a) (lQ a)))) (YO (AE (Ju a) (Ji a) (lQ a)) (YS (λ j=>AY (AE (nO a) (Zc a) (Wp (AG (λ k=>bC k (LZ a) (YQ a k))) (BO (LN a)) (Sr (BO (LN a)) (FI (LN a)) (CN j) (AG (λ k=>VA k (LN a) (AS (Sv a k)) (λ l=>HD l (Sv a k))))))) (Ju a) (Ji a) (lQ a) (DB j (LN a)) (KY (pW (Ig a) (LN a) 0) (pW (Ig a) (FM (LN a) j) j))) (λ j=>DH (IE (Ju a) (Ji a) (lQ a) j (LN a) (KY (pW (Ig a) (LN a) 0) (pW (Ig a) (FM (LN a) j) j))) j (BK (LN a)) (HM (And (RX j (LN a)) (JU (CF j) (LN a))) (AJ (BR (Jv a j)) (BW (Jv a j)) (And (Pg (Jv a j)) (Aq (Jv a j))) (RW (and (not (sR (Jv a j))) (Db j)) (Mb j) (BK (LN a))) (Ia (MY (and (not (sR (Jv a j))) (Db j)) (JU (Sx j) (LN a))) (RW (and (not (sR (Jv a j))) (Db j)) (Mb j) (BK (LN a))) (MY (and (not (sR (Jv a j))) (Db j)) (Cv (Xq (Sv a (Sx j))) (Sv a (Sx j)))) (MY (and (not (sR (Jv a j))) (Db j)) (WW (FQ (Jv a j)))))) (RC (sR (Jv a j)) (HG (Db j) (ZR (AX (Sv a (Sx j)) (GF (Xq (Sv a (Sx j))))) (AX (Jv a j) LJ)))) (And (ME (Eu a)) (CD (Ev a))) (SA (λ k=>QU (AE (nO a) (Zc a) (Wp (AG (λ l=>bC l (LZ a) (YQ a l))) (BO (LN a)) (Sr (BO (LN a)) (FI (LN a)) (BJ k j) (AG (λ l=>VA l (LN a) (AS (Sv a l)) (λ m=>HD m (Sv a l))))))) (IE (Ju a) (Ji a) (lQ a) k (LN a) (KY (pW (Ig a) (LN a) 0) (pW (Ig a) (FM (LN a) k) k))) (LN a) k j))) (And (KY (Eu a) (hd7 (PV.m a) (DP (BK (LZ a))))) (CD (Ev a))))))))))) := by kernel_rfl
def pvZ (g : List Gau) (m : Int) : PV := ⟨g, m, [], false⟩
def nilK : List (List Int) := []
def kE : AVal := .d (eLL nilK)
def pv8e (g : List Gau) (m : Int) : Shape := { α := One, dflt := default, T := λ _ => ⟨[(0, .d (DX g)), (1, .int m), (2, kE), (9, .d VG), (24, kE), (25, .int 0), (26, .int 0)], []⟩, inv := λ _ => AZ g = 0, meas := λ _ => 0 }
def CHZ (g : List Gau) (m : Int) : Shape := { α := One, dflt := default, T := λ _ => ⟨[(1, .int m), (2, kE), (9, .d VG), (45, .d VG), (46, .int 0), (47, .int 0)], []⟩, inv := λ _ => AZ g = 0, meas := λ _ => 0 }
structure GM where
 g : List Gau
 m : Int
def CBA (a : GM) : Ann := { ann 87 [(mR, C_Check.spec Ch), (uG, C_named.spec dGK), (ASZ, C_ssS.spec dSSt), (Vp, C_isKnot.spec dGsK)] with mt := λ id => id == 13, loops := λ id => if id = 8 then some [pv8e a.g a.m] else if id = 17 then some [CHZ a.g a.m] else none }
def BYX (a : GM) : Prop := CH Try.prog (CBA a) tD (AI tD) [.d (DX a.g), .int a.m, kE] (AD []) (pvV (pvZ a.g a.m)) [] [] []
abbrev Sh:=GM.g
abbrev dK a b (c:Nat->Prop):=ZJ a (EP b c)
abbrev Ao a:=KX nilK a
abbrev QD:=AG (λ i=>dK i (GN (Ao i)) (λ j=>Ir j (Ao i)))
attribute [go_sem] Sh dK Ao QD
theorem CCK (a : GM) : (BYX a) = (BC (YN (Sh a) (Sh a) (Av (Sh a))) (Gt (AU (Sh a))) (Mj (Eu (pvZ (Sh a) (GM.m a))) (Ev (pvZ (Sh a) (GM.m a))) (Io (AU (Sh a)))) (And (Sz (AE (AS (Sh a)) (CB (Sh a)) (Wp (AK (GM.m a)) QD (HX BM AC (λ i=>dK i (GN (Ao i)) (λ j=>Ir j (Ao i))) (Pd 0 (NC nilK)) BA))) (Sh a)) (YO (ZP (Sh a)) (AE (AE AC BM EF) (Sz (Wp (AK (GM.m a)) QD (aT BA BA)) (Sh a)) (NR (λ i=>QF (ZP (Sh a)) (KY (Eu (pvZ (Sh a) (GM.m a))) (hd7 (GM.m a) (DP (BK (NC nilK))))) (CD (Ev (pvZ (Sh a) (GM.m a)))))))))) := by kernel_rfl
def dLLr (n : Nat) (r : Nat -> DVal) : List (List Int) := OC n λ i => match r i with
 | .list _ m h _ => OC m λ j => JD (h j)
 | _ => default
def dPV : List AVal -> Heap -> Option (PV × List (Nat × Nat) × List Nat)
 | [x, .d (.v (.int .i64 m)), .own id _ _ n], H => match tL x H, H id with
  | some (l, f), .live (.row _ _ r) => some (⟨l, m, dLLr n r, true⟩, [(100, id)], f)
  | _, _ => none
 | [x, .d (.v (.int .i64 m)), .d (.list _ n r _)], H => match tL x H with
  | some (l, f) => some (⟨l, m, dLLr n r, false⟩, [], f)
  | none => none
 | _, _ => none
def C_Proves : Ctr := { ro := [100], α := PV, xs := λ a => [.d (DX a.g), .int a.m, bif a.o then .own 100 1 0 a.k.length else eLLd a], L := λ a => bif a.o then [(100, X4 a.k)] else [], val := pvV, keep := λ a => bif a.o then [(100, .live (X4 a.k))] else [], pre := λ a => [(a.g.length < 1073741824 /\ a.k.length < 20) /\ ∀ i, i < a.k.length -> (gD a.k i).length < 1073741824] }
theorem ALT {b : GK} (h : (Vh b).2 = true) : bL b = true /\ (Vh b).1 = Ij b := by
 unfold Vh at h ⊢
 cases hc : bL b with
 | false => rw [hc] at h; cases h
 | true => exact ⟨rfl, rfl⟩
theorem Ff (a : PV) : (jU a).length = a.k.length := by unfold jU; rw [List.length_map]
theorem BCU {a : PV} {i : Nat} (h : i < a.k.length) : gD (jU a) i = Ij ⟨a.g, gD a.k i⟩ := BPM _ h
theorem AMO (S : List (List Gau)) : (Je S).length = S.length := by unfold Je; rw [(ABD _ _).length_eq, OE]
theorem BXD {S : List (List Gau)} {i : Nat} (h : i < S.length) : 0 <= gD (Je S) i /\ gD (Je S) i < S.length := by
 have h1 : gD (Je S) i ∈ fB S.length := (ABD (keyS S) (fB S.length)).mem_iff.1 (DU (by show i < (Je S).length; rw [AMO]; exact h))
 unfold fB at h1
 obtain ⟨j, hj, e⟩ := List.mem_map.1 h1
 have := List.mem_range.1 hj
 rw [<- e]; exact ⟨Int.natCast_nonneg _, Int.ofNat_lt.2 this⟩
theorem AKF (a : PV) : (Ig a).length = a.k.length := by unfold Ig; rw [List.length_map, AMO, Ff]
theorem AVC {a : PV} {i : Nat} (h : i < a.k.length) : gD (Ig a) i = gD (jU a) (gD (Je (jU a)) i).toNat := BPM _ (by rw [AMO, Ff]; exact h)
theorem BTU {a : PV} {i : Nat} (h : i < a.k.length) : ∃ j, j < a.k.length /\ gD (Ig a) i = Ij ⟨a.g, gD a.k j⟩ := by
 have := BXD (S := jU a) (i := i) (by rw [Ff]; exact h)
 rw [Ff] at this
 exact ⟨(gD (Je (jU a)) i).toNat, by omega, by rw [AVC h, BCU (by omega)]⟩
theorem ABR {a : PV} : pvN a = true ↔ ∀ i, i < a.k.length -> (Vh ⟨a.g, gD a.k i⟩).2 = true := by
 unfold pvN
 rw [List.all_eq_true]
 constructor
 ·exact λ h i hi => h _ (DU hi)
 ·intro h z hz
  obtain ⟨i, hi, rfl⟩ := YL hz
  exact h i hi
theorem BOA {a : PV} (hc : AZ a.g = 0) (hk : a.k.length <= 24) {i : Nat} (hi : i < a.k.length) (h : (Vh ⟨a.g, gD a.k i⟩).2 = false) : lT a = false /\ bI a = 2 := by
 have hn : pvN a = false := by
  cases hq : pvN a with
  | false => rfl
  | true => rw [ABR.1 hq i hi] at h; cases h
 have e : bI a = 2 := by
  unfold bI; rw [hc, hn, decide_eq_false (by omega)]; rfl
 exact ⟨by unfold lT; rw [e]; rfl, e⟩
theorem BTH {a : PV} (hc : AZ a.g = 0) (hk : a.k.length <= 24) (hn : pvN a = true) : bI a = 0 /\ lT a = bif pW (Ig a) (Ig a).length 0 then decide (a.m <= wr (a.k.length + 1)) else false := by
 have e : bI a = 0 := by
  unfold bI; rw [hc, hn, decide_eq_false (by omega)]; rfl
 exact ⟨e, by unfold lT; rw [e]; rfl⟩
theorem CCW {a : PV} (h1 : a.g.length < 1073741824) (h3 : a.k.length < 20) (hn : pvN a = true) : okSs (jU a) := by
 refine ⟨by rw [Ff]; exact h3, λ i hi => ?_⟩
 rw [Ff] at hi
 rw [BCU hi]
 have := bZ h1 (ALT (ABR.1 hn i hi)).1
 unfold Ij; rw [List.length_map]
 have : 2 <= (gD a.k i).length := this.1
 omega
theorem CGK (a : PV) (h1 : a.g.length < 1073741824) (h2 : 0 < a.k.length) (h3 : a.k.length < 20) (h4 : ∀ i, i < a.k.length -> (gD a.k i).length < 1073741824) : BYJ a := by
 rw [CDR]<;> delta KY hd5 hd7 Dc GH HK FK KN Tu PN FA AO ZR AT CX AG CG CM EM BK DB DW DT QP PD RO FM PQ Ah YC WQ DM GP SA EF XV XJ Io GF Il KT WH NR Ie Ej Ll iA AAH xW Iq NC KX Um EC Li Iv Eu Ev KK AE KC FQ AJ AP DR AU AK BO JQ Ia bR Ep jM Sr BAQ QS DK AX AQ AH BH TA CY BN CL CZ CA KF DP FT GI AC BB ED IG QK HI BIV gK CQ EP DF MX CF FC DG EN AW AY ZJ Ma Et LW CJ DE DN AS EO tP DS DY GN CD MY QJ VA LI LJ JM EU FE DV HP Ir BM FG CE MK CO JN UQ QF ZP AJT JG JE HG IF IE MN cH Fc Cv FB HD iJ Mb BE CB IK LZ BA BC LO MS BW YQ JC EZ NY LA Df RW BJ Ef EB BR MU IM Sx ME Bv Wp QW Af DH HC Gr Tr Cz FI LN Db MR CN KO qT GA RC UX UY ZT SE bC RD FW Sv OU Dl MD HM JU Dk Eh RZ YP Ti fF Ea Le Kz YY Ns PF Gi YO RX Zh Jl Ji Jm Jv Ju Qf Tt Td Oi Xl UB Ub QU Yl WW SO YV Aq Zc YS VC WR Zj Gt Pz lQ nO Mj YN Pg Xq sR; simp only [CC, eq_self, implies_true, forall_const, BOI, Bool.not_not, Int.toNat_zero]
 have hT := AKF a
 refine ⟨by omega, λ hc => ?_, λ hc => ?_⟩
 ·have e0 : (AZ a.g == 0) = false := by simpa using hc
  have e : bI a = AZ a.g := by unfold bI; rw [e0]; rfl
  exact ⟨by unfold lT; rw [e, e0]; rfl, e⟩
 have c0 : AZ a.g = 0 := by simpa using hc
 have one : ∀ {i : Nat}, i < a.k.length -> (Vh ⟨a.g, gD a.k i⟩).2 = true -> (Vh ⟨a.g, gD a.k i⟩).1 = Ij ⟨a.g, gD a.k i⟩ := λ _ h => (ALT h).2
 refine ⟨λ h => by omega, λ _ => ⟨⟨⟨default, c0, by omega, h2⟩, λ _ => ⟨λ _ => ⟨⟨by omega, by omega⟩, ⟨h1, h4 0 h2⟩, λ hn => BOA c0 (by omega) h2 hn, λ hn => ⟨⟨by omega, by omega, by omega, by omega, by omega⟩, 1, ⟨rfl, (EQ (a := 0) (by omega)).symm, rfl, λ i hi => ?_⟩, ⟨c0, by omega, by omega, by omega, λ j hj => ?_⟩, by omega⟩⟩, λ hge => by omega⟩, λ i ⟨_, _, i1, i2, i3⟩ => ⟨λ hlt => ⟨⟨by omega, by omega⟩, ⟨h1, h4 i (by omega)⟩, λ hn => BOA c0 (by omega) (by omega) hn, λ hn => ⟨⟨by omega, λ h => (by cases h), by omega, by omega⟩, i + 1, ⟨rfl, (EQ (by omega)).symm, rfl, λ j hj => ?_⟩, ⟨c0, by omega, by omega, by omega, λ j hj => ?_⟩, by omega⟩⟩, λ hge => ⟨default, ⟨?_, ?_, λ j hj => ?_⟩, c0, by omega, ?_⟩⟩⟩, λ ⟨_, _, hn⟩ => ?_⟩⟩
 ·rw [show i = 0 by omega, one h2 hn]; exact ⟨rfl, λ _ _ => ⟨rfl, rfl, rfl⟩⟩
 ·rw [show j = 0 by omega]; exact hn
 ·by_cases hji : j < i
  ·rw [decide_eq_true hji]; exact ⟨rfl, λ _ _ => ⟨rfl, rfl, rfl⟩⟩
  ·rw [decide_eq_false hji, show j = i by omega, one (by omega) hn]; exact ⟨rfl, λ _ _ => ⟨rfl, rfl, rfl⟩⟩
 ·by_cases hji : j < i
  ·exact i3 j hji
  ·rw [show j = i by omega]; exact hn
 ·rw [Ff]; omega
 ·rw [Ff]; omega
 ·rw [Ff] at hj; rw [BCU hj]; exact ⟨rfl, λ _ _ => ⟨rfl, rfl, rfl⟩⟩
 ·exact ABR.2 λ j hj => i3 j (by omega)
 ·have hS := CCW h1 h3 hn
  obtain ⟨eE, eM⟩ := BTH c0 (by omega) hn
  have tin : ∀ {i : Nat}, i < a.k.length -> (gD (Ig a) i).length < 1073741824 /\ (∀ g ∈ gD (Ig a) i, XH g) /\ 2 <= (gD (Ig a) i).length := λ {i} hi => by
   obtain ⟨j, hj, e⟩ := BTU hi
   have hb := ABR.1 hn j hj
   have := BFA (a := ⟨a.g, gD a.k j⟩) (MP c0).2 h1
   rw [(ALT hb).2] at this
   have h5 := bZ h1 (ALT hb).1
   rw [e]
   refine ⟨this.1, this.2, ?_⟩
   unfold Ij; rw [List.length_map]; exact h5.1
  refine ⟨⟨hS, default, ⟨by rw [Ff]; exact hT, by rw [Ff]; exact hT, λ i hi => ?_⟩, c0, by omega, hn⟩, λ _ => ⟨⟨0, rfl, c0, by omega, hn, Nat.zero_le _, rfl⟩, λ i ⟨_, _, _, i2, i3⟩ => ⟨λ hlt => ?_, λ hge => ?_⟩⟩⟩
  ·rw [AVC (by omega)]; exact ⟨rfl, λ _ _ => ⟨rfl, rfl, rfl⟩⟩
  ·have hi : i < a.k.length := by omega
   obtain ⟨t1, t2, t3⟩ := tin hi
   have pos : ∀ {x : Bool}, (x && decide ((i : Int) > 0)) = true -> 0 < i := λ {x} h => by
    have := (Bool.and_eq_true _ _ ▸ h).2
    have := of_decide_eq_true this; omega
   have e1 : 0 < i -> IntKind.i64.wrap ((i : Int) - 1) = ((i - 1 : Nat) : Int) := λ h => by rw [LS (by omega) (by omega)]; omega
   have e2 : 0 < i -> IntKind.i64.wrap (((gD (Ig a) (i - 1)).length : Int) - 1) = (((gD (Ig a) (i - 1)).length - 1 : Nat) : Int) := λ h => by
    obtain ⟨u1, u2, u3⟩ := tin (i := i - 1) (by omega)
    rw [LS (by omega) (by omega)]; omega
   have eb : badP (Ig a) i = (bif (CS (gD (Ig a) i)).snd then true else bif decide ((i : Int) > 0) then decide ((gD (gD (Ig a) (IntKind.i64.wrap ((i : Int) - 1)).toNat) (IntKind.i64.wrap (((gD (Ig a) (IntKind.i64.wrap ((i : Int) - 1)).toNat).length : Int) - 1)).toNat).st > (gD (gD (Ig a) i) 0).st) else false) := by
    unfold badP
    by_cases h0 : 0 < i
    ·rw [e1 h0, Int.toNat_natCast, e2 h0, Int.toNat_natCast]
    ·rw [decide_eq_false (show ¬(i : Int) > 0 by omega)]; rfl
   refine ⟨⟨⟨by omega, by omega⟩, by omega⟩, ⟨⟨t1, t2⟩, λ h => ?_, λ h => ?_, λ h => ?_, λ h => ?_, λ h => ?_, λ h => ⟨by omega, by omega⟩⟩, λ hb => ?_, λ hb => ?_⟩
   ·have := pos h; rw [e1 this]; omega
   ·have := pos h; rw [e1 this]; omega
   ·have := pos h; rw [e1 this]; omega
   ·have := pos h; rw [e1 this]; omega
   ·have h0 := pos h
    obtain ⟨u1, u2, u3⟩ := tin (i := i - 1) (by omega)
    rw [e1 h0, Int.toNat_natCast, e2 h0]; omega
   ·rw [<- eb] at hb
    refine ⟨?_, eE⟩
    rw [eM, i3, show (Ig a).length - i = ((Ig a).length - (i + 1)) + 1 by omega]
    unfold pW; rw [hb]; rfl
   ·rw [<- eb] at hb
    refine ⟨i + 1, (EQ (by omega)).symm, ⟨c0, by omega, hn, by omega, ?_⟩, by omega⟩
    rw [i3, show (Ig a).length - i = ((Ig a).length - (i + 1)) + 1 by omega]
    conv => lhs; unfold pW
    rw [hb]; rfl
  ·refine ⟨?_, eE⟩
   rw [eM, i3, show (Ig a).length - i = 0 by omega]; rfl
theorem CIE (a : GM) (h1 : a.g.length < 1073741824) : BYX a := by
 rw [CCK]<;> delta KY hd7 Dc GH HK FK Tu FA AO AT CX AG CG CM EM BK QP PD RO YC DM GP EF Io WH NR NC KX Eu Ev Sh AE AJ AP DR AU AK BO JQ Ia Ep DK AX AH BH CY BN CL CZ DP AC CQ EP DF MX DG EN AW ZJ Ma DE DN AS EO DY GN CD EU FE DV Ir BM FG MK UQ QF ZP MN FB HD FH BE CB Ao BA BC BW EB BR ME Wp TN KO dK FW HX QD aT YO UB Av Sz Gt Mj Pd YN; simp only [CC, eq_self, implies_true, forall_const]
 refine ⟨by omega, λ hc => ?_, λ hc => ?_⟩
 ·have e0 : (AZ a.g == 0) = false := by simpa using hc
  have e : bI (pvZ a.g a.m) = AZ a.g := by unfold bI pvZ; rw [e0]; rfl
  exact ⟨by unfold lT; rw [e, e0]; rfl, e⟩
 ·have c0 : AZ a.g = 0 := by simpa using hc
  obtain ⟨eE, eM⟩ := BTH (a := pvZ a.g a.m) c0 (by show 0 <= 24; omega) rfl
  exact ⟨⟨default, rfl, c0⟩, λ _ => ⟨⟨default, c0⟩, λ _ => ⟨by rw [eM]; rfl, eE⟩⟩⟩
theorem BSW (k : List (List Int)) : dLLr k.length (λ i => DC (gD k i)) = k := by
 unfold dLLr
 show (OC k.length λ i => OC (gD k i).length λ j => JD (PT (gD (gD k i) j))) = k
 simp only [dInt_eInt, Eo]
theorem CDZ (a : PV) (h1 : a.g.length < 1073741824) (h2 : a.k.length < 20) (h3 : ∀ i, i < a.k.length -> (gD a.k i).length < 1073741824) : FnT Try.prog AAX [.d (DX a.g), .int a.m, eLLd a] (AD []) (pvV a) [] := by
 cases hk : a.k with
 | nil =>
  have e : a = ⟨a.g, a.m, [], a.o⟩ := by rw [<- hk]
  rw [e]
  exact Lg (A := CBA ⟨a.g, a.m⟩) (L := []) (keep := []) (ren := []) (fz := []) ATJ (by kernel_rfl) (AB Wv (AB ABB (AB BTE (AB Vj AF)))) (CIE ⟨a.g, a.m⟩ h1)
 | cons z t =>
  exact Lg (A := BZG a) (L := []) (keep := []) (ren := []) (fz := []) ATJ (by kernel_rfl) (AB Wv (AB ABB (AB BTE (AB Vj AF)))) (CGK a h1 (by rw [hk]; exact Nat.succ_pos _) h2 h3)
theorem ATZ : AL Try.prog AAX (C_Proves.spec dPV) := okT C_Proves (λ (a : PV) h => by
 obtain ⟨⟨h1, h2⟩, h3⟩ : (a.g.length < 1073741824 /\ a.k.length < 20) /\ ∀ i, i < a.k.length -> (gD a.k i).length < 1073741824 := h
 obtain ⟨g, m, k, o⟩ := a
 have hf := CDZ ⟨g, m, k, o⟩ h1 h2 h3
 cases o with
 | false => exact hf
 | true =>
  refine FnT.lend (fz := [100]) (xs := [.d (DX g), .int m, .own 100 1 0 k.length]) (L := [(100, X4 k)]) hf rfl ?_ rfl ?_ _ ?_
  ·show [_, _, AVal.d (.list 1 k.length (λ j => DC (gD k (0 + j))) false)] = _
   simp only [Nat.zero_add]; rfl
  ·show 0 + k.length <= k.length; omega
  ·exact ⟨rfl, trivial⟩) _
end Go.Bal
