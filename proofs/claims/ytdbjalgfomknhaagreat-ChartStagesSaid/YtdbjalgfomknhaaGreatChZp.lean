/- Package chart, with the reference: Peak. -/
import Derived.Test.YtdbjalgfomknhaaGreatChZp0
set_option linter.unusedVariables false
set_option linter.unusedSimpArgs false
namespace Go.Bal
open Go Go.Sym Go.Proofs
structure IJK where
 i : Nat
 j : Nat
 k : Nat
 deriving Inhabited
def zpB (x : CZ2) (h : Hul) : List (Nat × HCell) := [(201, .live (oI x.a.c)), (202, .live (.box [.int 0, .int 0])), (203, .live (.box [.int h.s.lo, .int h.s.hi]))]
def zpS (x : CZ2) (h : Hul) : List (Nat × AVal) := [(1, .d (JO x.a.z)), (2, .int (sY x)), (3, .int (vX x)), (4, .bptr 201 0), (8, .bptr 202 0), (10, .d (DA (RS x.a))), (12, .bptr 203 0), (13, .bool h.m)]
def zp12 (x : CZ2) : Shape := { α := Nat, dflt := 0, T := λ a => ⟨zpS x (Er x a) ++ [(14, .int a)], zpB x (Er x a)⟩, inv := λ a => a <= x.a.c.ms.length /\ zpH x, meas := λ a => x.a.c.ms.length - a, first := [(201, 1000), (202, 1016), (203, 10000)] }
def zp15 (x : CZ2) (m : Nat) : Shape := { α := IJ, dflt := default, T := λ s => ⟨zpS x (vW x s.i (Er x s.i) (s.j - s.i)) ++ [(14, .int s.i), (15, .int s.j)], zpB x (vW x s.i (Er x s.i) (s.j - s.i))⟩, inv := λ s => (s.i < x.a.c.ms.length /\ x.a.c.ms.length - s.i = m /\ s.i <= s.j /\ s.j <= x.a.c.ms.length) /\ zpH x, meas := λ s => x.a.c.ms.length - s.j }
def zp20 (x : CZ2) (m n : Nat) : Shape := { α := IJK, dflt := default, T := λ s => ⟨zpS x (vW x s.i (Er x s.i) (s.j - s.i)) ++ [(14, .int s.i), (15, .int s.j), (16, .own 204 2 0 x.a.c.ms.length), (17, .bptr 205 0), (18, .int s.k)], zpB x (vW x s.i (Er x s.i) (s.j - s.i)) ++ [(204, .live (.row 2 x.a.c.ms.length λ q => FX (K2 x s.i s.j s.k q))), (205, .live (.box [.int (pJ x s.i s.j s.k).lo, .int (pJ x s.i s.j s.k).hi]))]⟩, inv := λ s => (s.i <= s.j /\ s.j < x.a.c.ms.length /\ x.a.c.ms.length - s.i = m /\ x.a.c.ms.length - s.j = n /\ s.k <= x.a.c.ms.length) /\ zpH x, meas := λ s => x.a.c.ms.length - s.k, first := [(204, 18032), (205, 19000)] }
def BII (x : CZ2) : Ann := { ann 158 [(kZ, C_Times.spec dCZ), (Sm, C_zst.spec dCtI), (bH, ARL), (Vq, C_zSet.spec dZL)] with mt := λ id => id == 17, loops := λ id => if id = 12 then some [zp12 x] else none, inner := λ gs id => if id = 15 then some [zp15 x (gs.getD 0 0)] else if id = 20 then some [zp20 x (gs.getD 1 0) (gs.getD 0 0)] else none }
def BKG (x : CZ2) : Prop := CL Try.prog (BII x) AGT (AH AGT) (xCZ2 x) (AB []) (.tup [.d (FX (Kt x).1), .int (Kt x).2]) [] [] []
abbrev jN:=Kt
abbrev R4:=@Exists IJK
abbrev YQ:=IJK.i
abbrev QA:=IJK.j
abbrev HU:=IJK.k
abbrev Co a:=Tb (jN a)
abbrev AEE a b:=HD a (iZ b)
abbrev wL a:=AEE (-100000000) a
abbrev wH a:=HD (iA a) 100000000
abbrev E0 a:=Hl (GC a)
abbrev Pk a b c d e:=AG a (E0 b) c (wH d) (wL e)
abbrev Gq a b:=AEE (iA a) b
abbrev Qz a b c d:=Tg a (IV b) (ACB c d)
abbrev WN a:=BC (EC a)
abbrev To a:=AF (vX a)
abbrev Ue a:=AF (sY a)
abbrev Pa a:=Oz (GC a)
abbrev Pp a:=Xf (GC a)
abbrev gW a b:=JV a (YQ b)
abbrev IW a b:=AJV a (YQ b) (gW (QA b) b)
abbrev WM a b c d:=pJ a (YQ b) (QA c) (HU d)
abbrev Jl a b c:=K2 a (YQ b) (QA b) (HU b) c
abbrev Nr a b c:=BA (Jl a b c)
abbrev YD a:=BB (HU a)
abbrev Dv a b c d:=WZ a (YD b) c d
abbrev Qc a b c:=BI (Jl a b c)
abbrev Xr a b c:=Nr a b (YD c)
attribute [go_sem] jN R4 YQ QA HU Co AEE wL wH E0 Pk Gq Qz WN To Ue Pa Pp gW IW WM Jl Nr YD Dv Qc Xr
theorem BLM (x : CZ2) : (BKG x) = (QQ (CW (Ag x) (ZS x) (Aj x) (Ft x) (Fj x) (BY (Mz x x) (λ i=>JW i (GC x) (IV x)) (Lj x x) (AC (λ i=>Lf i x x i)) (JR (GC x)) (Bq (GC x)) (PS (GC x)) (QJ (GC x)) (PY (GC x)))) (Eh (Kj x)) (AE (Ae (Co x)) (PJ (Co x)) (Ad (jN x) (Eh (Kj x)))) (JM (IP (iZ x) (iA x)) (Ae (Co x)) (PJ (Co x)) (Ad (jN x) 4) (JM (NC (As (iA x) 100000000) (IP (iZ x) (-100000000))) (Ae (Co x)) (PJ (Co x)) (Ad (jN x) 5) (DY (λ i=>CW (AG (Pp x) (Pa x) (AQ (sY x) (WK (iA x) (-100000000))) (AQ (vX x) (Nm (iZ x) 100000000)) (BY (HO (An x) (WW (Kj x))) (λ j=>MJ j (Ea x) (An x) (WW (Kj x))) (EU (UZ (Er x i))) (BR i) (Ag x) (ZS x) (Aj x) (Ft x) (ZY (Fj x) (WN x) (Yu (EC x) (IV x)) (IV x) (λ j=>Qz j x x j) (Mw (Er x i)) (Mh (Er x i))))) (Ms i x) (E0 x) (Gq x x) (wH x) (wL x)) (λ i=>CO (Pk (Ms i x) x (Gq x x) x x) i (Ea x) (Om (λ j=>CW (CW (Pp x) (Pa x) (Ue x) (To x) (Ed x) (AR (Yp x) (OS (ID x j) (Er x i)) (Dm j i) (IN (EI j) i) (Ag x) (ZS x) (Aj x) (Ft x) (ZY (Fj x) (WN x) (Yu (EC x) (IV x)) (IV x) (λ k=>Qz k x x k) (KZ (ID x j) (Er x i)) (LB (ID x j) (Er x i))))) (AN (Ua j x) (TK (Vz x j) x i) (Ur j j) (Ux j x)) (E0 x) (Gq x x) (wH x) (wL x))) (oR (λ j=>BX (Pk (AN (Ua j x) (TK (Vz x j) x i) (Ur j j) (Ux j x)) x (Gq x x) x x) (JM (HG (EI j) (Ea x)) (PA (TE AI 0) (TE LG (Ea x)) (MB (Ea x)) (Fk (Ea x)) (Ab (BB (Ea x)))) (R4 (λ k=>CW (AG (Pp x) (Pa x) (Ue x) (To x) (BY (Ed x) (λ l=>TW l (An x)) (OS (IW x k) (ID x j)) (IN (YQ k) (EW j)) (IN (QA k) (EI j)) AI (Jx (EC x) (Ea x)) (BR (HU k)) (UH (IV x) (WN x) (λ l=>Rk l (EC x) (IV x)) (DB (IV x)) (pS (AC (λ l=>Qz l x x l)) AJ (KZ (IW x k) (ID x j)) (LB (IW x k) (ID x j)) (Jx (EC x) (Ea x)) (AC (λ l=>JZ l (EC x) (Nr x k l) (EM (An x) (RV l)) (Jl x k l) (LU (An x) (RV l)))) (Ae (WM x k k k)) (PJ (WM x k k k)))))) (AG (DH (YQ k) (QA k)) (Jn (QA k) x) (TK (gW (EC x) k) x i) (TK (JV (EC x) (QA k)) x (EI j)) (Ms (HU k) x)) (E0 x) (Gq x x) (wH x) (wL x))) ((λ (f : IJK -> Prop) => ∀ (x : IJK), f x) (λ k=>BX (Pk (AG (DH (YQ k) (QA k)) (Jn (QA k) x) (TK (gW (EC x) k) x i) (TK (JV (EC x) (QA k)) x (EI j)) (Ms (HU k) x)) x (Gq x x) x x) (DX (HG (HU k) (Ea x)) (DV (HG (HU k) (YQ k)) (iN (DG (HU k) (EC x)) (Jn (YD k) x) (ME (YD k) (EC x))) (R4 (λ l=>DU (AG (Pp x) (Pa x) (Ue x) (To x) (BY (Ed x) (λ m=>TW m (An x)) (OS (IW x l) (IW x k)) (IN (YQ l) (YQ k)) (IN (QA l) (QA k)) AI (WN x) (BH (HU l) (HU k)) (UH (IV x) (WN x) (λ m=>Rk m (EC x) (IV x)) (DB (IV x)) (pS (AC (λ m=>Qz m x x m)) AJ (KZ (IW x l) (IW x k)) (LB (IW x l) (IW x k)) (WN x) (AC (λ m=>KH m (EC x) (Nr x l m) (Dv m k (Xr x k k) (Nr x k m)) (Jl x l m) (Dv m k (Nm (Qc x k (YD k)) (OZ (sY x))) (Qc x k m)))) (NQ (WM x l l l) (WM x k k k)) (BD (WM x l l l) (WM x k k k)))))) (Pk (AG (DH (YQ l) (QA l)) (Jn (QA l) x) (TK (gW (EC x) l) x i) (TK (JV (EC x) (QA l)) x (EI j)) (Ms (HU l) x)) x (Gq x x) x x) (EC x) (HU l) (HU k))) (DV (OT (HU k) (BU (QA k))) (iN (DG (HU k) (EC x)) (Jn (YD k) x) (ME (YD k) (EC x))) (R4 (λ l=>DU (AG (Pp x) (Pa x) (Ue x) (To x) (BY (Ed x) (λ m=>TW m (An x)) (OS (IW x l) (IW x k)) (IN (YQ l) (YQ k)) (IN (QA l) (QA k)) AI (WN x) (BH (HU l) (HU k)) (UH (IV x) (WN x) (λ m=>Rk m (EC x) (IV x)) (DB (IV x)) (pS (AC (λ m=>Qz m x x m)) AJ (KZ (IW x l) (IW x k)) (LB (IW x l) (IW x k)) (WN x) (AC (λ m=>KH m (EC x) (Nr x l m) (Dv m k (WK (Xr x k k) (FZ (vX x))) (Nr x k m)) (Jl x l m) (Dv m k (Qc x k (YD k)) (Qc x k m)))) (NQ (WM x l l l) (WM x k k k)) (BD (WM x l l l) (WM x k k k)))))) (Pk (AG (DH (YQ l) (QA l)) (Jn (QA l) x) (TK (gW (EC x) l) x i) (TK (JV (EC x) (QA l)) x (EI j)) (Ms (HU l) x)) x (Gq x x) x x) (EC x) (HU l) (HU k))) (GN (iN (DG (HU k) (EC x)) (Jn (YD k) x) (Od (Jn (YD k) x) (DG (HU k) (EC x)) (ME (YD k) (EC x)))) (WI (BU (HU k)) (BU (YQ k))) (AE (AN (Ag x) (ZS x) (Aj x) (JA (IV x) (Mz x x) (RN (GC x) (IV x)) (Lj x x) (λ l=>Lf l x x l) (BW (HU k)) (Nf (HU k) (GC x)) (OO (GC x)))) (CI (Ag x) (ZS x) (Aj x) (Ft x) (Fj x) (Mz x x) (DO (λ l=>JW l (GC x) (IV x)) (Lj x x) (λ l=>Lf l x x l) (BW (HU k)) (And (Nf (HU k) (GC x)) (OO (GC x))) (Ag x) (ZS x) (Aj x) (JA (IV x) (Mz x x) (RN (GC x) (IV x)) (Lj x x) (λ l=>Lf l x x l) (BW (HU k)) (Nf (HU k) (GC x)) (OO (GC x))))) (R4 (λ l=>DU (AG (Pp x) (Pa x) (Ue x) (To x) (BY (Ed x) (λ m=>TW m (An x)) (OS (IW x l) (IW x k)) (IN (YQ l) (YQ k)) (IN (QA l) (QA k)) AI (WN x) (BH (HU l) (HU k)) (UH (IV x) (WN x) (λ m=>Rk m (EC x) (IV x)) (DB (IV x)) (pS (AC (λ m=>Qz m x x m)) AJ (KZ (IW x l) (IW x k)) (LB (IW x l) (IW x k)) (WN x) (AC (λ m=>KH m (EC x) (Nr x l m) (Dv m k (Dv (YD k) k (WK (Xr x k k) (sY x)) (Xr x k k)) (Dv m k (WK (Xr x k k) (sY x)) (Nr x k m))) (Jl x l m) (Dv m k (Nm (Qc x k (YD k)) (vX x)) (Dv m k (Qc x k (YD k)) (Qc x k m))))) (KP (WM x l l l) (WK (Dq (Tl x) (HU k)) (Dq (Tl x) (HU k)))) (BF (WM x l l l) (WK (BI (QE (Tl x) (HU k))) (BI (QE (Tl x) (HU k))))))))) (Pk (AG (DH (YQ l) (QA l)) (Jn (QA l) x) (TK (gW (EC x) l) x i) (TK (JV (EC x) (QA l)) x (EI j)) (Ms (HU l) x)) x (Gq x x) x x) (EC x) (HU l) (HU k)))) (And (CI (Ag x) (ZS x) (Aj x) (Ft x) (Fj x) (Mz x x) (DO (λ l=>JW l (GC x) (IV x)) (Lj x x) (λ l=>Lf l x x l) (BW (HU k)) (And (Nf (HU k) (GC x)) (OO (GC x))) (Ag x) (ZS x) (Aj x) (JA (IV x) (Mz x x) (RN (GC x) (IV x)) (Lj x x) (λ l=>Lf l x x l) (BW (HU k)) (Nf (HU k) (GC x)) (OO (GC x))))) (R4 (λ l=>DU (AG (Pp x) (Pa x) (Ue x) (To x) (BY (Ed x) (λ m=>TW m (An x)) (OS (IW x l) (IW x k)) (IN (YQ l) (YQ k)) (IN (QA l) (QA k)) AI (WN x) (BH (HU l) (HU k)) (UH (IV x) (WN x) (λ m=>Rk m (EC x) (IV x)) (DB (IV x)) (pS (AC (λ m=>Qz m x x m)) AJ (KZ (IW x l) (IW x k)) (LB (IW x l) (IW x k)) (WN x) (AC (λ m=>KH m (EC x) (Nr x l m) (Dv m k (Dv (YD k) k (WK (Xr x k k) (sY x)) (Xr x k k)) (Dv m k (WK (Xr x k k) (sY x)) (Nr x k m))) (Jl x l m) (Dv m k (Nm (Qc x k (YD k)) (vX x)) (Dv m k (Qc x k (YD k)) (Qc x k m))))) (KP (WM x l l l) (WK (BA (WM x k k k)) (Dq (Tl x) (HU k)))) (BF (WM x l l l) (WK (BI (WM x k k k)) (BI (QE (Tl x) (HU k))))))))) (Pk (AG (DH (YQ l) (QA l)) (Jn (QA l) x) (TK (gW (EC x) l) x i) (TK (JV (EC x) (QA l)) x (EI j)) (Ms (HU l) x)) x (Gq x x) x x) (EC x) (HU l) (HU k))))))) (GN (CI (Ag x) (ZS x) (Aj x) (Ft x) (Fj x) (Mz x x) (DO (λ l=>JW l (GC x) (IV x)) (Lj x x) (λ l=>Lf l x x l) (JR (GC x)) (Bq (GC x)) (LO (Ak (EC x) (λ l=>Jl x k l)) (EC x)) (NP (EC x)) (AC (λ l=>UG l (Ak (EC x) (λ m=>Jl x k m)) l (Nr x k (BB l)) (Jl x k (BB l)))) (PreS (hZ (Kj x) (Ak (EC x) (λ l=>Jl x k l)))))) (Ox (hZ (Kj x) (Ak (EC x) (λ l=>Jl x k l)))) (Om (λ l=>DU (CW (Pp x) (Pa x) (Ue x) (To x) (Ed x) (AR (Yp x) (Qe (ID x l)) (Dm l (YQ k)) (Pv l (QA k)) (Ag x) (ZS x) (Aj x) (Ft x) (ZY (Fj x) (WN x) (Yu (EC x) (IV x)) (IV x) (λ m=>Qz m x x m) (Fl (ID x l) (BA (Hy (IW x k) (UZ (IW x k)) (WM x k k k)))) (Hp (ID x l) (Hy (IW x k) (UZ (IW x k)) (WM x k k k)))))) (Pk (AN (Ua l x) (TK (Vz x l) x i) (Ur l l) (Ux l x)) x (Gq x x) x x) (EC x) (EI l) (EI j))) (Om (λ l=>DU (CW (Pp x) (Pa x) (Ue x) (To x) (Ed x) (AR (Yp x) (OS (ID x l) (IW x k)) (Dm l (YQ k)) (Pv l (QA k)) (Ag x) (ZS x) (Aj x) (Ft x) (ZY (Fj x) (WN x) (Yu (EC x) (IV x)) (IV x) (λ m=>Qz m x x m) (KZ (ID x l) (IW x k)) (LB (ID x l) (IW x k))))) (Pk (AN (Ua l x) (TK (Vz x l) x i) (Ur l l) (Ux l x)) x (Gq x x) x x) (EC x) (EI l) (EI j))))))) (GW (λ k=>DU (AG (Pp x) (Pa x) (Ue x) (To x) (BY (Ed x) (λ l=>TW l (An x)) (OS (Er x k) (ID x j)) (BH k (EW j)) (Ag x) (ZS x) (Aj x) (Ft x) (ZY (Fj x) (WN x) (Yu (EC x) (IV x)) (IV x) (λ l=>Qz l x x l) (KZ (Er x k) (ID x j)) (LB (Er x k) (ID x j))))) (Pk (Ms k x) x (Gq x x) x x) (EC x) k i))))) (JM (not (UZ (Er x i))) (Ae (Co x)) (PJ (Co x)) (Ad (jN x) 5) (AE (KP (Co x) (Oo (Er x i))) (BD (Co x) (Bg (Er x i))) (JF (Rd (jN x)))))))))) := by kernel_rfl
theorem AFO (x : CZ2) (a b k q : Nat) : K2 x a b (k + 1) q = bif decide (q = k) then uW x a b k else K2 x a b k q := by
 unfold K2
 by_cases e : q = k
 ·subst e
  rw [decide_eq_true (show q < q + 1 by omega), decide_eq_true (rfl : q = q)]; rfl
 ·rw [decide_eq_false e]
  by_cases e2 : q < k
  ·rw [decide_eq_true e2, decide_eq_true (show q < k + 1 by omega)]; rfl
  ·rw [decide_eq_false e2, decide_eq_false (show ¬ q < k + 1 by omega)]; rfl
theorem AFA (x : CZ2) (a b k : Nat) : K2 x a b k k = gD (RS x.a) k := by
 unfold K2; rw [decide_eq_false (Nat.lt_irrefl k)]; rfl
theorem BLX (x : CZ2) (a b q : Nat) : K2 x a b 0 q = gD (RS x.a) q := by
 unfold K2; rw [decide_eq_false (Nat.not_lt_zero q)]; rfl
theorem APV (x : CZ2) {a b k : Nat} (h : k < a ∨ b < k) : pJ x a b (k + 1) = pJ x a b k := by
 show (bif decide (k < a) then _ else bif decide (k > b) then _ else U0 _ _) = _
 by_cases e : k < a
 ·rw [decide_eq_true e]; rfl
 ·rw [decide_eq_false e, decide_eq_true (show k > b by omega)]; rfl
theorem APN (x : CZ2) {a b k : Nat} (h1 : ¬ k < a) (h2 : ¬ b < k) : pJ x a b (k + 1) = U0 (bif decide (k = a) then QF x.a.c (k : Int) else pJ x a b k) (QF x.a.c (k : Int)) := by
 show (bif decide (k < a) then _ else bif decide (k > b) then _ else U0 _ _) = _
 rw [decide_eq_false h1, decide_eq_false (show ¬ k > b by omega)]; rfl
theorem BQI (x : CZ2) (h : x.a.c.ms.length < 4611686018427387904 /\ x.a.c.ns.length < 4611686018427387904 /\ x.a.z.length < 4611686018427387904) : BKG x := by
 rw [BLM]<;> delta KY Aq BA BI FW OH PR Cs EX FI CE CU AC BX CM AQ LU BU WF DH DX IP HD LS PG WK Nm JV ER GP GA HQ HT HC HR DS GB ED GW LG Ak WI IX As QT TU LL YY BV BQ Uc FT SA NM Bz Vc Dd UZ Bg Tb Rd GC iZ iA Om EW EI oR vE G6 hZ jN R4 YQ QA HU AE BG AW EO GJ GI AG SV GM NV BF BE UR CK AR VB CN BD AF CG BC Od J1 pS AO CQ BS CV Dc JL CY BO HK CR AL ZB Ao QX Bc Cl CF AM AT DR DZ GF GG BB DW AS EG FC Db AP FG DC DB CS HW IV FV TB GR FZ DF KU HA FU EM KG FE ET CJ GQ EC AN BY NY FY FJ EV EJ KD DI Hh MF OZ WZ FL HY AI HH An LR OK LV Df JG BH HL ZC uZ OM JF ACB JP ZD NO DV Oo JZ MT DG PN iN AJV Rk LX EK CW MG OX QV Bf IN LO KE MD IS KC MU HG EU HX ME Iq DU GZ UH LI TW AJ IY SS QE OC gW PF CI YD UE PU PC BR BW SU KP RT IZ VG FP Hl TI GN Fl CO Hp MB DY Xf ID Jl IW RP NL MJ VE DO QC AEE OP HO TE LB KZ XY NC NQ JA JR NP QM JW Ui YF XV JM OO OS TK Dm PY QJ SC PJ LJ Tg OT PS WN KH Nr WY WW Jn Co UN Oz RN Ms WM Aj E0 Ed RV Gq Ag Ea Dv ZS Ae Ad Eh Jq wH Yu Ft wL PA QQ sL Pa Fj Pp Ab Kj Dq To ZY UG Ue Hy Qc Nf Mz Lj Bq Qz Ux Ua Vz Jx Ur Ox Yp Lf Xr Pv Mh Mw Qe Tl Pk Fk; simp only [CC, eq_self, implies_true, forall_const, DN, Cg, ALU]
 refine ⟨h, λ h1 => ?_, λ h1 => ?_⟩
 ·have hn : (DK x.a == 0) = false := by simpa using h1
  unfold Kt; rw [hn]; exact ⟨rfl, rfl, rfl⟩
 have h0 : DK x.a = 0 := by simpa using h1
 have c0 := (SR h0).1
 obtain ⟨m1, m2⟩ := (PX.1 c0).m
 have tl := Wm h0
 rw [AEU h0]
 simp only [CC, eq_self, implies_true, forall_const, tl, M2]
 refine ⟨λ hlt => ?_, λ hge => ⟨λ ho => ?_, λ hi => ?_⟩⟩
 ·unfold Kt jQ; rw [h0, decide_eq_true hlt]; exact ⟨rfl, rfl, rfl⟩
 ·have ho : x.f > 100000000 ∨ x.t < -100000000 := by
   by_cases q : x.f > 100000000
   ·exact .inl q
   ·rw [decide_eq_false q] at ho; exact .inr (of_decide_eq_true ho)
  rw [BPE h0 (by omega) ho]; exact ⟨rfl, rfl, rfl⟩
 have hz : zpH x := by
  by_cases q : x.f > 100000000
  ·rw [decide_eq_true q] at hi; cases hi
  ·rw [decide_eq_false q] at hi
   have q2 : ¬ x.t < -100000000 := of_decide_eq_false hi
   exact ⟨h0, by omega, by omega, by omega⟩
 have ev : Kt x = Gb (Er x x.a.c.ms.length) := by
  unfold Kt jQ; rw [h0, decide_eq_false (show ¬ x.t < x.f by omega)]; rfl
 have hft : Te x <= Td x := by
  obtain ⟨_, h1, h2, h3⟩ := hz
  unfold Te Td
  rcases UV x.f (-100000001) with ⟨q, _⟩ | ⟨q, _⟩ <;> rcases Tw x.t 100000001 with ⟨r, _⟩ | ⟨r, _⟩ <;> rw [q, r] <;> omega
 have sO : ∀ a, Er x (a + 1) = vW x a (Er x a) (x.a.c.ms.length - a) := λ a => by
  show (bif decide (Td x >= Te x) then _ else _) = _
  rw [decide_eq_true (show Td x >= Te x from hft)]; rfl
 simp only [ev]
 refine ⟨⟨0, ⟨rfl, rfl, rfl, rfl, rfl, rfl⟩, Nat.zero_le _, hz⟩, λ a ⟨a1, _⟩ => ⟨λ hlt => ⟨⟨⟨a, a⟩, ?_, ⟨by show a < _; omega, rfl, Nat.le_refl _, by show a <= _; omega⟩, hz⟩, λ s ⟨⟨s1, s2, s3, s4⟩, _⟩ => ⟨λ hj => ?_, λ hj => ?_⟩⟩, λ hge2 => ?_⟩⟩
 ·have e : vW x a (Er x a) (a - a) = Er x a := by rw [Nat.sub_self]; rfl
  exact ⟨congrArg Hul.m e, rfl, rfl, congrArg (λ h => h.s.lo) e, congrArg (λ h => h.s.hi) e⟩
 ·have hj : s.j < x.a.c.ms.length := by omega
  refine ⟨⟨(λ h => by cases h), by omega, by omega⟩, ⟨⟨s.i, s.j, 0⟩, ⟨rfl, rfl, rfl, rfl, rfl, rfl, λ q _ => by rw [BLX]; exact ⟨rfl, rfl⟩, rfl, rfl⟩, ⟨s3, hj, s2, rfl, Nat.zero_le _⟩, hz⟩, λ v ⟨⟨v1, v2, v3, v4, v5⟩, _⟩ => ⟨λ hk => ?_, λ hk => ?_⟩⟩
  ·have hk : v.k < x.a.c.ms.length := by omega
   refine ⟨λ c1 => ⟨⟨by omega, by omega, by omega, by omega⟩, ⟨v.i, v.j, v.k + 1⟩, ⟨rfl, rfl, rfl, (FH (by omega)).symm, rfl, rfl, λ q hq => ?_, ?_, ?_⟩, ⟨⟨v1, v2, v3, v4, by show v.k + 1 <= _; omega⟩, hz⟩, by show x.a.c.ms.length - (v.k + 1) < x.a.c.ms.length - v.k; omega⟩, λ c1 => ⟨λ c2 => ⟨⟨by omega, by omega, by omega, by omega⟩, ⟨v.i, v.j, v.k + 1⟩, ⟨rfl, rfl, rfl, (FH (by omega)).symm, rfl, rfl, λ q hq => ?_, ?_, ?_⟩, ⟨⟨v1, v2, v3, v4, by show v.k + 1 <= _; omega⟩, hz⟩, by show x.a.c.ms.length - (v.k + 1) < x.a.c.ms.length - v.k; omega⟩, λ c2 => ⟨⟨by omega, by omega, by omega, by omega, by omega, by omega, by omega, by omega⟩, λ c3 => ⟨⟨by omega, c0⟩, ⟨by omega, c0⟩, ⟨v.i, v.j, v.k + 1⟩, ⟨rfl, rfl, rfl, (FH (by omega)).symm, rfl, rfl, λ q hq => ?_, ?_, ?_⟩, ⟨⟨v1, v2, v3, v4, by show v.k + 1 <= _; omega⟩, hz⟩, by show x.a.c.ms.length - (v.k + 1) < x.a.c.ms.length - v.k; omega⟩, λ c3 => ⟨⟨by omega, c0⟩, ⟨v.i, v.j, v.k + 1⟩, ⟨rfl, rfl, rfl, (FH (by omega)).symm, rfl, rfl, λ q hq => ?_, ?_, ?_⟩, ⟨⟨v1, v2, v3, v4, by show v.k + 1 <= _; omega⟩, hz⟩, by show x.a.c.ms.length - (v.k + 1) < x.a.c.ms.length - v.k; omega⟩⟩⟩⟩
   ·have c1 : v.k < v.i := by omega
    rw [AFA, AFO]; unfold uW; rw [decide_eq_true c1]
    cases decide (q = v.k) <;> exact ⟨rfl, rfl⟩
   ·show (pJ x v.i v.j (v.k + 1)).lo = _
    rw [APV x (.inl (by omega))]
   ·show (pJ x v.i v.j (v.k + 1)).hi = _
    rw [APV x (.inl (by omega))]
   ·have c1 : ¬ v.k < v.i := by omega
    have c2 : v.k > v.j := by omega
    rw [AFA, AFO]; unfold uW; rw [decide_eq_false c1, decide_eq_true c2]
    cases decide (q = v.k) <;> exact ⟨rfl, rfl⟩
   ·show (pJ x v.i v.j (v.k + 1)).lo = _
    rw [APV x (.inr (by omega))]
   ·show (pJ x v.i v.j (v.k + 1)).hi = _
    rw [APV x (.inr (by omega))]
   ·have c1 : ¬ v.k < v.i := by omega
    have c2 : ¬ v.k > v.j := by omega
    rw [AFA, AFO]; unfold uW; rw [decide_eq_false c1, decide_eq_false c2]
    cases decide (q = v.k) <;> exact ⟨rfl, rfl⟩
   ·have c3 : v.k = v.i := by simp at c3; omega
    show (pJ x v.i v.j (v.k + 1)).lo = _
    rw [APN x (by omega) (by omega), decide_eq_true c3]; rfl
   ·have c3 : v.k = v.i := by simp at c3; omega
    show (pJ x v.i v.j (v.k + 1)).hi = _
    rw [APN x (by omega) (by omega), decide_eq_true c3]; rfl
   ·have c1 : ¬ v.k < v.i := by omega
    have c2 : ¬ v.k > v.j := by omega
    rw [AFA, AFO]; unfold uW; rw [decide_eq_false c1, decide_eq_false c2]
    cases decide (q = v.k) <;> exact ⟨rfl, rfl⟩
   ·have c3 : ¬ v.k = v.i := by simp at c3; omega
    show (pJ x v.i v.j (v.k + 1)).lo = _
    rw [APN x (by omega) (by omega), decide_eq_false c3]; rfl
   ·have c3 : ¬ v.k = v.i := by simp at c3; omega
    show (pJ x v.i v.j (v.k + 1)).hi = _
    rw [APN x (by omega) (by omega), decide_eq_false c3]; rfl
  ·have ek : v.k = x.a.c.ms.length := by omega
   have eL : (QR x.a.c.ms.length λ q => K2 x v.i v.j x.a.c.ms.length q) = vB x v.i v.j := rfl
   simp only [ek, eL, BCK hz v1 v2, BKZ x v1 v2]
   refine ⟨⟨by omega, λ q hq => ?_, BEX hz h.2.2 _ _⟩, λ hw => ⟨⟨v.i, v.j + 1⟩, ?_, ⟨⟨by show v.i < _; omega, v3, by show v.i <= v.j + 1; omega, by show v.j + 1 <= _; omega⟩, hz⟩, by show x.a.c.ms.length - (v.j + 1) < _; omega⟩, λ hw => ⟨⟨v.i, v.j + 1⟩, ?_, ⟨⟨by show v.i < _; omega, v3, by show v.i <= v.j + 1; omega, by show v.j + 1 <= _; omega⟩, hz⟩, by show x.a.c.ms.length - (v.j + 1) < _; omega⟩⟩
   ·unfold vB; rw [IK _ _ _ hq]; exact ⟨rfl, rfl⟩
   ·have e := pk1 x (Er x v.i) v1 hw
    refine ⟨?_, rfl, (FH (by omega)).symm, ?_, ?_⟩
    ·show (vW x v.i (Er x v.i) (v.j + 1 - v.i)).m = _
     rw [e]; rfl
    ·show (vW x v.i (Er x v.i) (v.j + 1 - v.i)).s.lo = _
     rw [e]
    ·show (vW x v.i (Er x v.i) (v.j + 1 - v.i)).s.hi = _
     rw [e]
   ·have e := pk0 x (Er x v.i) v1 hw
    refine ⟨?_, rfl, (FH (by omega)).symm, ?_, ?_⟩
    ·show (vW x v.i (Er x v.i) (v.j + 1 - v.i)).m = _
     rw [e]
    ·show (vW x v.i (Er x v.i) (v.j + 1 - v.i)).s.lo = _
     rw [e]
    ·show (vW x v.i (Er x v.i) (v.j + 1 - v.i)).s.hi = _
     rw [e]
 ·have ej : s.j = x.a.c.ms.length := by omega
  refine ⟨s.i + 1, ?_, ⟨by omega, hz⟩, by omega⟩
  rw [sO, ej]; exact ⟨rfl, (FH (by omega)).symm, rfl, rfl⟩
 ·obtain rfl : a = x.a.c.ms.length := by omega
  unfold Gb
  refine ⟨λ q => ?_, λ q => ?_⟩ <;> rw [q] <;> exact ⟨rfl, rfl, rfl⟩
theorem BLB : AK Try.prog AEI (C_Peak.spec dCZ2) := XM C_Peak BII [] [] AVV (λ _ => by kernel_rfl) (λ _ => AA AHC (AA AHT (AA ANL (AA AGY AD)))) (λ x h => BQI x h) (λ _ => YR rfl rfl) _
end Go.Bal
