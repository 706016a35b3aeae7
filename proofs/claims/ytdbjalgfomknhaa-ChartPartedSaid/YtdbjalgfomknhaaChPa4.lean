/- Law ChartParted: it returns true. -/
import Derived.Test.YtdbjalgfomknhaaChPa3
import Derived.Test.YtdbjalgfomknhaaChP
import Derived.Test.YtdbjalgfomknhaaChW1
set_option linter.unusedVariables false
set_option linter.unusedSimpArgs false
namespace Go.Bal
open Go Go.Sym Go.Proofs
theorem dup {R G : Prop} (r : R) (h : R -> G) : G := h r
theorem CZK (f : Nat -> Int) : AE 0 f = nilI := rfl
theorem CWU : nilI.length = 0 := rfl
theorem CFI {f : Nat -> Bool} : ∀ n, (∀ i, i < n -> f i = true) -> eqN f n = true
 | 0, _ => rfl
 | n + 1, h => by unfold eqN; rw [CFI n λ i hi => h i (by omega), h n (by omega)]; rfl
theorem CFW (l : List Span) : samS ⟨l, l⟩ = true := by
 unfold samS
 rw [CFI _ λ i _ => by unfold eqS; simp]; simp
theorem el1 {S S' : List Nt} {y : Nt} (h : S' = S ++ [y]) (h0 : S = []) : S'.length = 1 /\ ∀ i, i < S'.length -> gD S' i = y := by
 subst h; subst h0
 refine ⟨rfl, λ i hi => ?_⟩
 obtain rfl : i = 0 := by simpa using hi
 rfl
theorem el2 {S S' : List Nt} {y : Nt} (h : S' = S ++ [y]) : S'.length = S.length + 1 /\ ∀ i, i < S'.length -> gD S' i = bif decide (i < S.length) then gD S i else y := by
 subst h
 exact ⟨by rw [List.length_append, List.length_singleton], λ i hi => BRR _ _ (by rw [List.length_append, List.length_singleton] at hi; exact hi)⟩
set_option hygiene false in
macro "lfA" : tactic => `(tactic| repeat' (first | apply And.intro | intro _ | apply Exists.intro))
set_option hygiene false in
macro "lfB" : tactic => `(tactic| all_goals try first | exact default | (show ((_ : Nat) : Int) = ((_ : Nat) : Int); rfl) | (exact (ws _ (by omega)).symm))
theorem el2f (f : Nt -> Int) {S S' : List Nt} {y : Nt} (h : S' = S ++ [y]) {i : Nat} (hi : i < S'.length) : f (gD S' i) = bif decide (i < S.length) then f (gD S i) else f y := by
 rw [(el2 h).2 i hi]
 cases decide (i < S.length) <;> rfl
theorem el1f (f : Nt -> Int) {S S' : List Nt} {y : Nt} (h : S' = S ++ [y]) (h0 : S = []) {i : Nat} (hi : i < S'.length) : f (gD S' i) = f y := by
 rw [(el1 h h0).2 i hi]
theorem posS {S S' : List Nt} {y : Nt} (h : S' = S ++ [y]) : 0 < S'.length := by rw [(el2 h).1]; exact Nat.succ_pos _
set_option hygiene false in
macro "lfC" : tactic => `(tactic| first
 | assumption
 | rfl
 | omega
 | exact Nat.lt_of_le_of_lt (Fl _) (by omega)
 | exact Nat.lt_of_le_of_lt (Gl _) (by omega)
 | exact Nat.le_trans (Nat.mul_le_mul_right 40 (Nat.succ_le_succ (Fl _))) (by omega)
 | exact Nat.le_trans (Nat.mul_le_mul_right 40 (Nat.succ_le_succ (Gl _))) (by omega)
 | exact (el1 (Fs1 _ (by assumption)) (by assumption)).1
 | exact (el1 (Gs1 _ (by assumption)) (by assumption)).1
 | exact (el2 (Fs1 _ (by assumption))).1
 | exact (el2 (Gs1 _ (by assumption))).1
 | exact (Fs0 _ (by assumption)).trans (by assumption)
 | exact (Gs0 _ (by assumption)).trans (by assumption)
 | exact posS (Fs1 _ (by assumption))
 | exact posS (Gs1 _ (by assumption))
 | (rw [Fs0 _ (by assumption)]; first | done | assumption)
 | (rw [Gs0 _ (by assumption)]; first | done | assumption)
 | exact el1f Nt.mi (Fs1 _ (by assumption)) (by assumption) (by assumption)
 | exact el1f (·.t.lo) (Fs1 _ (by assumption)) (by assumption) (by assumption)
 | exact el1f (·.t.hi) (Fs1 _ (by assumption)) (by assumption) (by assumption)
 | exact el1f (·.s.lo) (Fs1 _ (by assumption)) (by assumption) (by assumption)
 | exact el1f (·.s.hi) (Fs1 _ (by assumption)) (by assumption) (by assumption)
 | exact el1f Nt.mi (Gs1 _ (by assumption)) (by assumption) (by assumption)
 | exact el1f (·.t.lo) (Gs1 _ (by assumption)) (by assumption) (by assumption)
 | exact el1f (·.t.hi) (Gs1 _ (by assumption)) (by assumption) (by assumption)
 | exact el1f (·.s.lo) (Gs1 _ (by assumption)) (by assumption) (by assumption)
 | exact el1f (·.s.hi) (Gs1 _ (by assumption)) (by assumption) (by assumption)
 | exact el2f Nt.mi (Fs1 _ (by assumption)) (by assumption)
 | exact el2f (·.t.lo) (Fs1 _ (by assumption)) (by assumption)
 | exact el2f (·.t.hi) (Fs1 _ (by assumption)) (by assumption)
 | exact el2f (·.s.lo) (Fs1 _ (by assumption)) (by assumption)
 | exact el2f (·.s.hi) (Fs1 _ (by assumption)) (by assumption)
 | exact el2f Nt.mi (Gs1 _ (by assumption)) (by assumption)
 | exact el2f (·.t.lo) (Gs1 _ (by assumption)) (by assumption)
 | exact el2f (·.t.hi) (Gs1 _ (by assumption)) (by assumption)
 | exact el2f (·.s.lo) (Gs1 _ (by assumption)) (by assumption)
 | exact el2f (·.s.hi) (Gs1 _ (by assumption)) (by assumption)
 | skip)
set_option maxHeartbeats 4000000 in
theorem p_Pa (x : PaI) (hf : PaF x) : V_Pa x := by
 obtain ⟨hs, ⟨n1, n2⟩, nn, ⟨tl, sl⟩, ⟨k1, k2⟩, nl, tC, tA, tB, lC, lA, lB, eA, eB, sC, sA, sB⟩ := hf
 have eC : (AN x).p = (AB x).p /\ (AN x).base = (AB x).base /\ (AN x).scale = (AB x).scale /\ (AN x).off = (AB x).off /\ (AN x).ms = (AB x).ms /\ (AN x).ns = DK x := by simp only [AN, and_self]
 have wk : IntKind.i64.wrap (AY x + 1) = ((((AY x).toNat + 1 : Nat)) : Int) := (FH (by omega) (by omega)).trans (by omega)
 have wl : IntKind.i64.wrap (((AB x).ms.length : Int) - AY x) = (((AB x).ms.length - (AY x).toNat : Nat) : Int) := (FH (by omega) (by omega)).trans (by omega)
 have wn : IntKind.i64.wrap (((AB x).ms.length : Int) - 1) = (((AB x).ms.length - 1 : Nat) : Int) := (FH (by omega) (by omega)).trans (by omega)
 have ws : ∀ a : Nat, a <= 60 -> IntKind.i64.wrap ((a : Int) + 1) = ((a + 1 : Nat) : Int) := λ a h => GE (by omega)
 have zA : (AE ((AY x).toNat + 1) λ i => gD (CI ⟨AN x, nilI⟩) i) = CI ⟨DP x, nilI⟩ := BLV (by rw [rng_length, lA]) λ i hi => by
  rw [rng_length] at hi; rw [BN _ _ _ hi]; exact eA i hi
 have zB : (AE ((AB x).ms.length - (AY x).toNat) λ i => gD (CI ⟨AN x, nilI⟩) ((AY x).toNat + i)) = CI ⟨DX x, nilI⟩ := BLV (by rw [rng_length, lB]) λ i hi => by
  rw [rng_length] at hi; rw [BN _ _ _ hi]; exact eB i hi
 have eX : Ky x = IntKind.i64.wrap (gD (HE x).t 0 + JS x.t (IntKind.i64.wrap (IntKind.i64.wrap (gD (HE x).t ((AB x).ms.length - 1) - gD (HE x).t 0) + 1))) := by simp only [Ky, wr]
 have eE : (UI x).mi = AY x /\ (UI x).t.lo = gD (HE x).t (AY x).toNat /\ (UI x).t.hi = gD (HE x).t (AY x).toNat /\ (UI x).s.lo = gD (HE x).s (AY x).toNat /\ (UI x).s.hi = gD (HE x).s (AY x).toNat := by simp only [UI, and_self]
 have eA2 : (DP x).p = (AB x).p /\ (DP x).base = (AB x).base /\ (DP x).scale = (AB x).scale /\ (DP x).off = (AB x).off /\ (DP x).ms = PO x /\ (DP x).ns = Db (AY x) (DK x) (DK x).length := by simp only [DP, and_self]
 have eB2 : (DX x).p = (AB x).p /\ (DX x).base = (AB x).base /\ (DX x).scale = (AB x).scale /\ (DX x).off = (AB x).off /\ (DX x).ms = PQ x /\ (DX x).ns = YB (AY x) (DK x) (DK x).length := by simp only [DX, and_self]
 have mA : PO x = AE ((AY x).toNat + 1) λ i => gD (AB x).ms i := by simp only [PO]
 have mB : PQ x = AE ((AB x).ms.length - (AY x).toNat) λ i => gD (AB x).ms ((AY x).toNat + i) := by simp only [PQ]
 have eN : DK x = QW x (AB x).ns.length ++ [UI x] := by simp only [DK, QW]
 have P0 : QW x 0 = [] := by simp only [QW, flN]
 have Ps1 : ∀ a, ((gD (AB x).ns a).mi != AY x) = true -> QW x (a + 1) = QW x a ++ [gD (AB x).ns a] := λ a h => by simp only [QW, flN, h, cond_true]
 have Ps0 : ∀ a, ((gD (AB x).ns a).mi != AY x) = false -> QW x (a + 1) = QW x a := λ a h => by simp only [QW, flN, h, cond_false]
 have Pl : ∀ a, (QW x a).length <= a := λ a => BOC _ _ a
 have F0 : Db (AY x) (DK x) 0 = [] := rfl
 have Fs1 : ∀ a, (gD (DK x) a).mi <= AY x -> Db (AY x) (DK x) (a + 1) = Db (AY x) (DK x) a ++ [gD (DK x) a] := λ a h => by simp only [Db, decide_eq_true h, cond_true]
 have Fs0 : ∀ a, ¬ (gD (DK x) a).mi <= AY x -> Db (AY x) (DK x) (a + 1) = Db (AY x) (DK x) a := λ a h => by simp only [Db, decide_eq_false h, cond_false]
 have Fl : ∀ a, (Db (AY x) (DK x) a).length <= a := λ a => CDL _ _ a
 have G0 : YB (AY x) (DK x) 0 = [] := rfl
 have Gs1 : ∀ a, (gD (DK x) a).mi >= AY x -> YB (AY x) (DK x) (a + 1) = YB (AY x) (DK x) a ++ [⟨IntKind.i64.wrap ((gD (DK x) a).mi - AY x), (gD (DK x) a).t, (gD (DK x) a).s⟩] := λ a h => by simp only [YB, decide_eq_true h, cond_true, dnN, wr]
 have Gs0 : ∀ a, ¬ (gD (DK x) a).mi >= AY x -> YB (AY x) (DK x) (a + 1) = YB (AY x) (DK x) a := λ a h => by simp only [YB, decide_eq_false h, cond_false]
 have Gl : ∀ a, (YB (AY x) (DK x) a).length <= a := λ a => CCM _ _ a
 obtain ⟨c1, c2, c3, c4, c5, c6⟩ := eC
 rw [DAX]; delta CCH ARC BVQ BLE CAN CBZ CAT CCK pN CAE BOQ Ex BQT AMI AOR BOM BNM ANT BLK BSF AP ED BKX BRD BPA BME ANX BMO BNA BUB BNQ BPK BRN APD BOU BTK BVA M8 BMU BTN AOL wW G1 Fj AMH ANU Ie BVT DQ AV AW aZ Ws cG Yr BI BH BK BL BM BJ bR Zc cC cD ANN AOT N0 BMA xU E8 BSJ yO J1 vF BNH xX BUT BRP Fb BSS BUP BSO APF BNR BQW BOH BSU BVB BV BW Xy NO L0 BVE xO APM vE xS AOF BAK BGH Rk BDT M4 ZM AWY xH BR BO BQ BP AZJ BHT AZG yF APU AWN AVP ARU AYA AQZ Jq L1 BHA Jd Mm Uj CS CV J2 KU Lm CW CU Re J5 TK BCF UA UC BFL RS SY BIN Bj Vl LA Vs Lo Jg BDH Wg I1 RV M9 K4 I6 Nf AVL AUY Vp Mh AXD Mj Mt ARF AQO Rg BHB BIQ BHX KP Oa Mv ASS E7 Sv Jr BDY tS A8 AZE xP C3 AVA yN zX AYH BID BHO BIB wQ zS tX Bn BEG Ac Al BAP Cr ZU BGQ Jn BIA F6 AWG Sl Lp Nz Uu Tx Pp AZY AXH ARM AXQ AUX AVF K9 zG ASI Vc Av BGS Un BCZ ART ASB YC wH BGU BGC ASQ YV Sj Ml BCE uI BFI M5 ZN AUI wF BCH K0 AYU uZ BEZ ATL BHV AQD AZP D9 K1 A9 uO tK BBZ BDB AWW vI xE ATD B8 BHL BEP AUN BEA BEQ C4 wK I4 yI ARK AWR BBW yL uD BHC F3 BDF BEO AVD BBS BCC z_Pa_286 BIS BBQ ARY AQR AUM AYP Vv SO BAN tF BAG tW BEC AZM A7 vX BFE BGV uK vT I0 BJA ARS ATA BBU L3 wL zK AWT yP E6 vC BHG ATN AXW zE BGT BET TS zZ AXC BIM AYQ BBM BFH AXV BGM AWQ BEY BFQ OQ AXS BCS ZK AZZ YS zV BAX AWI; simp only [CC, eq_self, implies_true, forall_const, CZK, CWU, CEK, show MkI.mk (Stm.mk x.bs 0 0) 12 false = paM x from rfl, show HC (paM x) = AB x from rfl, show sX (paM x) = HE x from rfl, show JS x.m (AB x).ms.length = AY x from rfl, BZ, tC, tA, tB]
 simp only [CC, eq_self, implies_true, forall_const, c1, c2, c3, c4, c5, c6, wk, wl, wn, lC, lA, lB, tl, sl, Nat.sub_zero, Int.toNat_zero, zA, zB, CFW, sC, <- eX, bne_self_eq_false, Bool.not_true]
 generalize QW x = P at *
 generalize Db (AY x) (DK x) = F at *
 generalize YB (AY x) (DK x) = G at *
 generalize CQ ⟨⟨AN x, nilI⟩, Ky x⟩ = SC at *
 generalize CQ ⟨⟨DP x, nilI⟩, Ky x⟩ = SA at *
 generalize CQ ⟨⟨DX x, nilI⟩, Ky x⟩ = SB at *
 generalize CI ⟨AN x, nilI⟩ = TC at *
 generalize CI ⟨DP x, nilI⟩ = TA at *
 generalize CI ⟨DX x, nilI⟩ = TB at *
 generalize DP x = A at *
 generalize DX x = B at *
 generalize PO x = MA at *
 generalize PQ x = MB at *
 generalize Ky x = X at *
 generalize AN x = D at *
 generalize DK x = N at *
 generalize UI x = E at *
 generalize AB x = C at *
 generalize HE x = T at *
 generalize AY x = K at *
 refine ⟨⟨rfl, hs, by decide, by decide⟩, ⟨k1, k2⟩, ?_⟩
 apply dup
 rotate_left
 intro rest
 refine ⟨⟨0, ⟨rfl, eE⟩, Nat.zero_le _, P0⟩, ?_, ?_⟩
 ·rintro a ⟨ha, h0⟩
  refine ⟨λ hlt => ⟨⟨by omega, λ hc => ⟨⟨by omega, by decide⟩, a, ⟨(el1 (Ps1 a hc) h0).1, rfl, (el1 (Ps1 a hc) h0).1, λ i hi => by rw [(el1 (Ps1 a hc) h0).2 i hi]; exact ⟨rfl, rfl, rfl, rfl, rfl⟩⟩, ⟨by omega, rfl⟩, by rw [(el1 (Ps1 a hc) h0).1]; exact Nat.one_pos⟩, λ hc => ⟨a, rfl, ⟨by omega, rfl⟩, by rw [Ps0 a hc]; exact h0⟩⟩, ?_, ?_⟩, ?_⟩
  ·rintro b ⟨⟨b1, b2⟩, b3⟩
   exact ⟨b + 1, (ws b (by omega)).symm, ⟨by omega, b3⟩, by omega⟩
  ·rintro b ⟨⟨b1, b2⟩, b3⟩
   exact ⟨b + 1, ⟨rfl, (ws b (by omega)).symm, rfl, λ i hi => ⟨rfl, rfl, rfl, rfl, rfl⟩⟩, ⟨by omega, b3⟩, by omega⟩
  ·intro hge
   obtain rfl : a = C.ns.length := by omega
   exact ⟨⟨λ h => absurd h (Nat.lt_irrefl 0), by decide, by decide, by decide, by decide⟩, ⟨default, (el1 eN h0).1, Nat.one_pos, λ j hj => by rw [(el1 eN h0).2 j hj]; exact ⟨rfl, rfl, rfl, rfl, rfl⟩⟩, rest⟩
 ·rintro a ⟨ha, h0⟩
  have sz : (P a).length < 9223372036854775807 /\ ((P a).length + 1) * 40 <= 140737488355328 := by have := Pl a; omega
  refine ⟨λ hlt => ⟨⟨by omega, λ hc => ⟨⟨by omega, Nat.one_pos, (λ h => by cases h), sz⟩, a, ⟨(el2 (Ps1 a hc)).1, rfl, (el2 (Ps1 a hc)).1, λ i hi => by rw [(el2 (Ps1 a hc)).2 i hi]; cases decide (i < (P a).length) <;> exact ⟨rfl, rfl, rfl, rfl, rfl⟩⟩, ⟨by omega, rfl⟩, by rw [(el2 (Ps1 a hc)).1]; exact Nat.succ_pos _⟩, λ hc => ⟨a, by rw [Ps0 a hc]; exact ⟨rfl, rfl, rfl, λ _ _ => ⟨rfl, rfl, rfl, rfl, rfl⟩⟩, ⟨by omega, rfl⟩, by rw [Ps0 a hc]; exact h0⟩⟩, ?_⟩, λ hge => ?_⟩
  ·rintro b ⟨⟨b1, b2⟩, b3⟩
   exact ⟨b + 1, ⟨rfl, (ws b (by omega)).symm, rfl, λ _ _ => ⟨rfl, rfl, rfl, rfl, rfl⟩⟩, ⟨by omega, b3⟩, by omega⟩
  ·obtain rfl : a = C.ns.length := by omega
   exact ⟨⟨Nat.one_pos, (λ h => by cases h), sz⟩, λ _ => ⟨default, (el2 eN).1, Nat.lt_succ_self _, λ j hj => by rw [(el2 eN).2 j hj]; cases decide (j < (P _).length) <;> exact ⟨rfl, rfl, rfl, rfl, rfl⟩⟩, rest⟩
 ·obtain ⟨a1, a2, a3, a4, a5, a6⟩ := eA2
  obtain ⟨b1, b2, b3, b4, b5, b6⟩ := eB2
  have zAe := eA
  have lM : MA.length = K.toNat + 1 /\ MB.length = C.ms.length - K.toNat := by rw [mA, mB]; exact ⟨rng_length _ _, rng_length _ _⟩
  have FlN := Fl N.length
  have GlN := Gl N.length
  have sA1 : A.ms.length = K.toNat + 1 /\ A.ns.length <= 13 := by rw [a5, a6]; exact ⟨lM.1, by omega⟩
  have sB1 : B.ms.length = C.ms.length - K.toNat /\ B.ns.length <= 13 := by rw [b5, b6]; exact ⟨lM.2, by omega⟩
  simp only [and_imp]
  refine ⟨⟨by omega, by omega⟩, ⟨by omega, by omega⟩, ⟨⟨0, ⟨rfl, lM.1, ?_, lM.2, ?_⟩, Nat.zero_le _, F0, G0⟩, ?_, ?_, ?_, ?_⟩, ⟨by omega, by omega, by decide⟩, ⟨by omega, by omega, by decide⟩, ⟨by omega, by omega, by decide⟩, ?_⟩
  ·intro i hi; rw [mA] at hi ⊢; rw [rng_length] at hi; rw [BN _ _ _ hi]; exact ⟨rfl, rfl⟩
  ·intro i hi; rw [mB] at hi ⊢; rw [rng_length] at hi; rw [BN _ _ _ hi]; exact ⟨rfl, rfl⟩
  ·intro a h1 h2 h3
   refine ⟨λ hlt => ?_, λ hge => ?_⟩
   ·lfA
    lfB
    all_goals lfC
   ·obtain rfl : a = N.length := by omega
    simp only [a1, a2, a3, a4, a5, a6, b1, b2, b3, b4, b5, b6, h2, h3, List.length_nil, true_and, and_true, implies_true, and_self, Nat.le_refl]
    exact ⟨default, trivial⟩
  ·intro a h1 h2 h3
   refine ⟨λ hlt => ?_, λ hge => ?_⟩
   ·lfA
    lfB
    all_goals lfC
   ·obtain rfl : a = N.length := by omega
    simp only [a1, a2, a3, a4, a5, a6, b1, b2, b3, b4, b5, b6, h3, List.length_nil, true_and, and_true, implies_true, and_self, Nat.le_refl]
    exact ⟨default, trivial⟩
  ·intro a h1 h2 h3
   refine ⟨λ hlt => ?_, λ hge => ?_⟩
   ·lfA
    lfB
    all_goals lfC
   ·obtain rfl : a = N.length := by omega
    simp only [a1, a2, a3, a4, a5, a6, b1, b2, b3, b4, b5, b6, h2, List.length_nil, true_and, and_true, implies_true, and_self, Nat.le_refl]
    exact ⟨default, trivial⟩
  ·intro a h1 h2 h3
   refine ⟨λ hlt => ?_, λ hge => ?_⟩
   ·lfA
    lfB
    all_goals lfC
   ·obtain rfl : a = N.length := by omega
    simp only [a1, a2, a3, a4, a5, a6, b1, b2, b3, b4, b5, b6, List.length_nil, true_and, and_true, implies_true, and_self, Nat.le_refl]
    exact ⟨default, trivial⟩
  ·simp only [cond_false, true_implies, Bool.false_eq_true, false_implies, true_and, and_true]
   refine ⟨⟨⟨⟨by omega, by omega, by omega⟩, ⟨λ i hi => by rw [eA i hi]; exact ⟨rfl, rfl⟩, by omega⟩, ⟨by omega, by omega, by omega⟩, λ i hi => by rw [eB i hi]; exact ⟨rfl, rfl⟩, by omega⟩, default, trivial⟩, ⟨⟨⟨by omega, by omega⟩, ⟨by omega, by omega⟩, by omega, by omega⟩, default, trivial⟩, ⟨by omega, by omega, by decide⟩, ⟨k1, k2⟩, λ h => ⟨⟨by omega, by omega, by decide⟩, ?_⟩, λ h => ⟨⟨by omega, by omega, by decide⟩, ?_⟩⟩
   ·rw [sB h, sC]; simp
   ·rw [sA h, sC]; simp
theorem DAV (x : PaI) (hb : ∀ i, i < x.bs.length -> 0 <= gD x.bs i /\ gD x.bs i <= 255) : FnT Try.prog BKB (xPa x) (AG []) (.bool true) [] :=
 UO (A := A_Pa x) (ren := []) (fz := []) CBD (by kernel_rfl) (AC CUZ (AC CLD (AC CQE (AC CXC (AC BYB (AC CDY (AC BWL (AC CLM AJ)))))))) (p_Pa x (CIO x hb))
end Go.Bal
