/- Law ChartParted: it returns true. -/
import Derived.Test.YtdbjalgfomknhaaChPa3
import Derived.Test.YtdbjalgfomknhaaChP
import Derived.Test.YtdbjalgfomknhaaChW1
set_option linter.unusedVariables false
set_option linter.unusedSimpArgs false
namespace Go.Bal
open Go Go.Sym Go.Proofs
theorem dup {R G : Prop} (r : R) (h : R -> G) : G := h r
theorem CYW (f : Nat -> Int) : AE 0 f = nilI := rfl
theorem CVW : nilI.length = 0 := rfl
theorem CET {f : Nat -> Bool} : ∀ n, (∀ i, i < n -> f i = true) -> eqN f n = true
 | 0, _ => rfl
 | n + 1, h => by unfold eqN; rw [CET n λ i hi => h i (by omega), h n (by omega)]; rfl
theorem CGB (l : List Span) : samS ⟨l, l⟩ = true := by
 unfold samS
 rw [CET _ λ i _ => by unfold eqS; simp]; simp
theorem el1 {S S' : List Nt} {y : Nt} (h : S' = S ++ [y]) (h0 : S = []) : S'.length = 1 /\ ∀ i, i < S'.length -> gD S' i = y := by
 subst h; subst h0
 refine ⟨rfl, λ i hi => ?_⟩
 obtain rfl : i = 0 := by simpa using hi
 rfl
theorem el2 {S S' : List Nt} {y : Nt} (h : S' = S ++ [y]) : S'.length = S.length + 1 /\ ∀ i, i < S'.length -> gD S' i = bif decide (i < S.length) then gD S i else y := by
 subst h
 exact ⟨by rw [List.length_append, List.length_singleton], λ i hi => BPN _ _ (by rw [List.length_append, List.length_singleton] at hi; exact hi)⟩
theorem GF (f : Nt -> Int) {S S' : List Nt} {y : Nt} (h : S' = S ++ [y]) {i : Nat} (hi : i < S'.length) : f (gD S' i) = bif decide (i < S.length) then f (gD S i) else f y := by
 rw [(el2 h).2 i hi]
 cases decide (i < S.length) <;> rfl
theorem GG (f : Nt -> Int) {S S' : List Nt} {y : Nt} (h : S' = S ++ [y]) (h0 : S = []) {i : Nat} (hi : i < S'.length) : f (gD S' i) = f y := by
 rw [(el1 h h0).2 i hi]
theorem posS {S S' : List Nt} {y : Nt} (h : S' = S ++ [y]) : 0 < S'.length := by rw [(el2 h).1]; exact Nat.succ_pos _
set_option maxHeartbeats 4000000 in
theorem p_Pa (x : PaI) (hf : PaF x) : V_Pa x := by
 obtain ⟨hs, ⟨n1, n2⟩, nn, ⟨tl, sl⟩, ⟨k1, k2⟩, nl, tC, tA, tB, lC, lA, lB, eA, eB, sC, sA, sB⟩ := hf
 have eC : (AO x).p = (AB x).p /\ (AO x).base = (AB x).base /\ (AO x).scale = (AB x).scale /\ (AO x).off = (AB x).off /\ (AO x).ms = (AB x).ms /\ (AO x).ns = DM x := by simp only [AO, and_self]
 have wk : IntKind.i64.wrap (AZ x + 1) = ((((AZ x).toNat + 1 : Nat)) : Int) := (FC (by omega) (by omega)).trans (by omega)
 have wl : IntKind.i64.wrap (((AB x).ms.length : Int) - AZ x) = (((AB x).ms.length - (AZ x).toNat : Nat) : Int) := (FC (by omega) (by omega)).trans (by omega)
 have wn : IntKind.i64.wrap (((AB x).ms.length : Int) - 1) = (((AB x).ms.length - 1 : Nat) : Int) := (FC (by omega) (by omega)).trans (by omega)
 have ws : ∀ a : Nat, a <= 60 -> IntKind.i64.wrap ((a : Int) + 1) = ((a + 1 : Nat) : Int) := λ a h => GK (by omega)
 have zA : (AE ((AZ x).toNat + 1) λ i => gD (CJ ⟨AO x, nilI⟩) i) = CJ ⟨DP x, nilI⟩ := BRP (by rw [rng_length, lA]) λ i hi => by
  rw [rng_length] at hi; rw [BH _ _ _ hi]; exact eA i hi
 have zB : (AE ((AB x).ms.length - (AZ x).toNat) λ i => gD (CJ ⟨AO x, nilI⟩) ((AZ x).toNat + i)) = CJ ⟨DV x, nilI⟩ := BRP (by rw [rng_length, lB]) λ i hi => by
  rw [rng_length] at hi; rw [BH _ _ _ hi]; exact eB i hi
 have eX : Ur x = IntKind.i64.wrap (gD (HE x).t 0 + KH x.t (IntKind.i64.wrap (IntKind.i64.wrap (gD (HE x).t ((AB x).ms.length - 1) - gD (HE x).t 0) + 1))) := by simp only [Ur, wr]
 have eE : (SD x).mi = AZ x /\ (SD x).t.lo = gD (HE x).t (AZ x).toNat /\ (SD x).t.hi = gD (HE x).t (AZ x).toNat /\ (SD x).s.lo = gD (HE x).s (AZ x).toNat /\ (SD x).s.hi = gD (HE x).s (AZ x).toNat := by simp only [SD, and_self]
 have eA2 : (DP x).p = (AB x).p /\ (DP x).base = (AB x).base /\ (DP x).scale = (AB x).scale /\ (DP x).off = (AB x).off /\ (DP x).ms = QA x /\ (DP x).ns = Dl (AZ x) (DM x) (DM x).length := by simp only [DP, and_self]
 have eB2 : (DV x).p = (AB x).p /\ (DV x).base = (AB x).base /\ (DV x).scale = (AB x).scale /\ (DV x).off = (AB x).off /\ (DV x).ms = PS x /\ (DV x).ns = YI (AZ x) (DM x) (DM x).length := by simp only [DV, and_self]
 have mA : QA x = AE ((AZ x).toNat + 1) λ i => gD (AB x).ms i := by simp only [QA]
 have mB : PS x = AE ((AB x).ms.length - (AZ x).toNat) λ i => gD (AB x).ms ((AZ x).toNat + i) := by simp only [PS]
 have eN : DM x = RE x (AB x).ns.length ++ [SD x] := by simp only [DM, RE]
 have P0 : RE x 0 = [] := by simp only [RE, flN]
 have Ps1 : ∀ a, ((gD (AB x).ns a).mi != AZ x) = true -> RE x (a + 1) = RE x a ++ [gD (AB x).ns a] := λ a h => by simp only [RE, flN, h, cond_true]
 have Ps0 : ∀ a, ((gD (AB x).ns a).mi != AZ x) = false -> RE x (a + 1) = RE x a := λ a h => by simp only [RE, flN, h, cond_false]
 have Pl : ∀ a, (RE x a).length <= a := λ a => BLW _ _ a
 have F0 : Dl (AZ x) (DM x) 0 = [] := rfl
 have Fs1 : ∀ a, (gD (DM x) a).mi <= AZ x -> Dl (AZ x) (DM x) (a + 1) = Dl (AZ x) (DM x) a ++ [gD (DM x) a] := λ a h => by simp only [Dl, decide_eq_true h, cond_true]
 have Fs0 : ∀ a, ¬ (gD (DM x) a).mi <= AZ x -> Dl (AZ x) (DM x) (a + 1) = Dl (AZ x) (DM x) a := λ a h => by simp only [Dl, decide_eq_false h, cond_false]
 have Fl : ∀ a, (Dl (AZ x) (DM x) a).length <= a := λ a => CDZ _ _ a
 have G0 : YI (AZ x) (DM x) 0 = [] := rfl
 have Gs1 : ∀ a, (gD (DM x) a).mi >= AZ x -> YI (AZ x) (DM x) (a + 1) = YI (AZ x) (DM x) a ++ [⟨IntKind.i64.wrap ((gD (DM x) a).mi - AZ x), (gD (DM x) a).t, (gD (DM x) a).s⟩] := λ a h => by simp only [YI, decide_eq_true h, cond_true, dnN, wr]
 have Gs0 : ∀ a, ¬ (gD (DM x) a).mi >= AZ x -> YI (AZ x) (DM x) (a + 1) = YI (AZ x) (DM x) a := λ a h => by simp only [YI, decide_eq_false h, cond_false]
 have Gl : ∀ a, (YI (AZ x) (DM x) a).length <= a := λ a => CEG _ _ a
 obtain ⟨c1, c2, c3, c4, c5, c6⟩ := eC
 rw [CYL]; delta BZS AQN BUP BSF BZN BZJ CAH CBZ gM BZZ BTY Ie BLY ANT AOY BOY BLE ANN BOM BSQ AQ ED BVI BSV BRH BTR ANB BRG BQU BND BQB BWC BOK ANV BNS BNA BOQ xV BRD BLI APD C6 vJ El AOB AOQ Ef BUE DR AW AV Yt Ym Zy Xq BK BM BL BI BN BJ bP dK cW bT AOE ANH zY BST tZ I4 BVY zP M8 tL BNG D5 BQG BLG Ec BTB BVF BSY AOL BNX BRB BQK BSK BMH BW BV bO NX C2 BQN xL APT xG uJ ANY AVC AZF Wm BCQ xZ YQ AWW zV BQ BP BR BS AXM AUK AVS xU AQY AQW AZC AXD ARN AVK Ju wH ATN Ma Ws Lv CT CV F8 KU Qc CU CW La uP SS AZN UQ SJ BIY UJ UC AXJ Bt Tw LF Ol Uo Wd ATC Pz yR TW F5 wQ D4 Kd ARR AWF Np Px BBU Jh Tu BBM AXI Wy AUV BFN BGI LH Tf Ls AZO xB Ll Lz BBF E1 tU AXT K9 C8 BIL L7 xD AYV AUZ AQH BBR tW E8 H5 Bz AQJ An YS AUR Am ZT BHO Lj BAN O1 ATI Wx Rw Ji Vb Tt Re BDZ ASB BAF BIP BCP AXF yM F1 BDL Sj Bg BCF Uk BCE BGP BDK ZB uW BDS AYU BHB Co Sc Ml BDM uL AQM M5 YR BEC yQ AQA A9 AVP zX BFR AUW ARZ AQC ARX wJ tX E4 G7 tO BEA AUP ARI F2 I7 BGM zM ASK AVL ATK BIB BFZ I0 zU E7 yJ BHA BBS ARO J9 xN BBN D1 AWB ARD ATW AYC AYM z_Pa_286 ART ATS AUX BAY AVN AUY Rj UP AXN yO BHJ tR BIM BCR tT F9 AXU AYB vM E2 vT AWJ BIR BGZ BAZ uZ yH zD ASF uB A5 zG BDT BIU BHL yP BFY BFV SY N4 AYS AQR BHW BFK APX BGE AYH BEE BEP AYN OF AXO BBO Dc BHV Bw wE BDY AYX; simp only [CC, eq_self, implies_true, forall_const, CYW, CVW, CFD, show MkI.mk (Stm.mk x.bs 0 0) 12 false = paM x from rfl, show HG (paM x) = AB x from rfl, show tK (paM x) = HE x from rfl, show KH x.m (AB x).ms.length = AZ x from rfl, CB, tC, tA, tB]
 simp only [CC, eq_self, implies_true, forall_const, c1, c2, c3, c4, c5, c6, wk, wl, wn, lC, lA, lB, tl, sl, Nat.sub_zero, Int.toNat_zero, zA, zB, CGB, sC, <- eX, bne_self_eq_false, Bool.not_true]
 generalize RE x = P at *
 generalize Dl (AZ x) (DM x) = F at *
 generalize YI (AZ x) (DM x) = G at *
 generalize CR ⟨⟨AO x, nilI⟩, Ur x⟩ = SC at *
 generalize CR ⟨⟨DP x, nilI⟩, Ur x⟩ = SA at *
 generalize CR ⟨⟨DV x, nilI⟩, Ur x⟩ = SB at *
 generalize CJ ⟨AO x, nilI⟩ = TC at *
 generalize CJ ⟨DP x, nilI⟩ = TA at *
 generalize CJ ⟨DV x, nilI⟩ = TB at *
 generalize DP x = A at *
 generalize DV x = B at *
 generalize QA x = MA at *
 generalize PS x = MB at *
 generalize Ur x = X at *
 generalize AO x = D at *
 generalize DM x = N at *
 generalize SD x = E at *
 generalize AB x = C at *
 generalize HE x = T at *
 generalize AZ x = K at *
 refine ⟨⟨rfl, hs, by decide, by decide⟩, ⟨k1, k2⟩, ?_⟩
 apply dup
 rotate_left
 intro rest
 refine ⟨⟨0, ⟨rfl, eE⟩, Nat.zero_le _, P0⟩, ?_, ?_⟩
 ·rintro a ⟨ha, h0⟩
  refine ⟨λ hlt => ⟨⟨by omega, λ hc => ⟨⟨by omega, by decide⟩, a, ⟨(el1 (Ps1 a hc) h0).1, rfl, (el1 (Ps1 a hc) h0).1, λ i hi => by rw [(el1 (Ps1 a hc) h0).2 i hi]; exact ⟨rfl, rfl, rfl, rfl, rfl⟩⟩, ⟨by omega, rfl⟩, by rw [(el1 (Ps1 a hc) h0).1]; exact Nat.one_pos⟩, λ hc => ⟨a, rfl, ⟨by omega, rfl⟩, by rw [Ps0 a hc]; exact h0⟩⟩, ?_, ?_⟩, ?_⟩
  ·rintro b ⟨⟨b1, b2⟩, b3⟩
   exact ⟨b + 1, (ws b (by omega)).symm, ⟨by omega, b3⟩, by omega⟩
  ·rintro b ⟨⟨b1, b2⟩, b3⟩
   exact ⟨b + 1, ⟨rfl, (ws b (by omega)).symm, rfl, λ i hi => ⟨rfl, rfl, rfl, rfl, rfl⟩⟩, ⟨by omega, b3⟩, by omega⟩
  ·intro hge
   obtain rfl : a = C.ns.length := by omega
   exact ⟨⟨λ h => absurd h (Nat.lt_irrefl 0), by decide, by decide, by decide, by decide⟩, ⟨default, (el1 eN h0).1, Nat.one_pos, λ j hj => by rw [(el1 eN h0).2 j hj]; exact ⟨rfl, rfl, rfl, rfl, rfl⟩⟩, rest⟩
 ·rintro a ⟨ha, h0⟩
  have sz : (P a).length < 9223372036854775807 /\ ((P a).length + 1) * 40 <= 140737488355328 := by have := Pl a; omega
  refine ⟨λ hlt => ⟨⟨by omega, λ hc => ⟨⟨by omega, Nat.one_pos, (λ h => by cases h), sz⟩, a, ⟨(el2 (Ps1 a hc)).1, rfl, (el2 (Ps1 a hc)).1, λ i hi => by rw [(el2 (Ps1 a hc)).2 i hi]; cases decide (i < (P a).length) <;> exact ⟨rfl, rfl, rfl, rfl, rfl⟩⟩, ⟨by omega, rfl⟩, by rw [(el2 (Ps1 a hc)).1]; exact Nat.succ_pos _⟩, λ hc => ⟨a, by rw [Ps0 a hc]; exact ⟨rfl, rfl, rfl, λ _ _ => ⟨rfl, rfl, rfl, rfl, rfl⟩⟩, ⟨by omega, rfl⟩, by rw [Ps0 a hc]; exact h0⟩⟩, ?_⟩, λ hge => ?_⟩
  ·rintro b ⟨⟨b1, b2⟩, b3⟩
   exact ⟨b + 1, ⟨rfl, (ws b (by omega)).symm, rfl, λ _ _ => ⟨rfl, rfl, rfl, rfl, rfl⟩⟩, ⟨by omega, b3⟩, by omega⟩
  ·obtain rfl : a = C.ns.length := by omega
   exact ⟨⟨Nat.one_pos, (λ h => by cases h), sz⟩, λ _ => ⟨default, (el2 eN).1, Nat.lt_succ_self _, λ j hj => by rw [(el2 eN).2 j hj]; cases decide (j < (P _).length) <;> exact ⟨rfl, rfl, rfl, rfl, rfl⟩⟩, rest⟩
 ·obtain ⟨a1, a2, a3, a4, a5, a6⟩ := eA2
  obtain ⟨b1, b2, b3, b4, b5, b6⟩ := eB2
  have zAe := eA
  have lM : MA.length = K.toNat + 1 /\ MB.length = C.ms.length - K.toNat := by rw [mA, mB]; exact ⟨rng_length _ _, rng_length _ _⟩
  have FlN := Fl N.length
  have GlN := Gl N.length
  have sA1 : A.ms.length = K.toNat + 1 /\ A.ns.length <= 13 := by rw [a5, a6]; exact ⟨lM.1, by omega⟩
  have sB1 : B.ms.length = C.ms.length - K.toNat /\ B.ns.length <= 13 := by rw [b5, b6]; exact ⟨lM.2, by omega⟩
  simp only [and_imp]
  refine ⟨⟨by omega, by omega⟩, ⟨by omega, by omega⟩, ⟨⟨0, ⟨rfl, lM.1, ?_, lM.2, ?_⟩, Nat.zero_le _, F0, G0⟩, ?_, ?_, ?_, ?_⟩, ⟨by omega, by omega, by decide⟩, ⟨by omega, by omega, by decide⟩, ⟨by omega, by omega, by decide⟩, ?_⟩
  ·intro i hi; rw [mA] at hi ⊢; rw [rng_length] at hi; rw [BH _ _ _ hi]; exact ⟨rfl, rfl⟩
  ·intro i hi; rw [mB] at hi ⊢; rw [rng_length] at hi; rw [BH _ _ _ hi]; exact ⟨rfl, rfl⟩
  ·intro a h1 h2 h3
   refine ⟨λ hlt => ?_, λ hge => ?_⟩
   ·(repeat' (first | apply And.intro | intro _ | apply Exists.intro))
    (all_goals try first | exact default | (show ((_ : Nat) : Int) = ((_ : Nat) : Int); rfl) | (exact (ws _ (by omega)).symm))
    all_goals first
     | assumption | rfl | omega | exact Nat.lt_of_le_of_lt (Fl _) (by omega) | exact Nat.lt_of_le_of_lt (Gl _) (by omega)
     | exact Nat.le_trans (Nat.mul_le_mul_right 40 (Nat.succ_le_succ (Fl _))) (by omega) | exact Nat.le_trans (Nat.mul_le_mul_right 40 (Nat.succ_le_succ (Gl _))) (by omega)
     | exact (el1 (Fs1 _ (by assumption)) (by assumption)).1 | exact (el1 (Gs1 _ (by assumption)) (by assumption)).1 | exact (el2 (Fs1 _ (by assumption))).1
     | exact (el2 (Gs1 _ (by assumption))).1 | exact (Fs0 _ (by assumption)).trans (by assumption) | exact (Gs0 _ (by assumption)).trans (by assumption)
     | exact posS (Fs1 _ (by assumption)) | exact posS (Gs1 _ (by assumption)) | (rw [Fs0 _ (by assumption)]; first | done | assumption)
     | (rw [Gs0 _ (by assumption)]; first | done | assumption) | exact GG Nt.mi (Fs1 _ (by assumption)) (by assumption) (by assumption)
     | exact GG (·.t.lo) (Fs1 _ (by assumption)) (by assumption) (by assumption) | exact GG (·.t.hi) (Fs1 _ (by assumption)) (by assumption) (by assumption)
     | exact GG (·.s.lo) (Fs1 _ (by assumption)) (by assumption) (by assumption) | exact GG (·.s.hi) (Fs1 _ (by assumption)) (by assumption) (by assumption)
     | exact GG Nt.mi (Gs1 _ (by assumption)) (by assumption) (by assumption) | exact GG (·.t.lo) (Gs1 _ (by assumption)) (by assumption) (by assumption)
     | exact GG (·.t.hi) (Gs1 _ (by assumption)) (by assumption) (by assumption) | exact GG (·.s.lo) (Gs1 _ (by assumption)) (by assumption) (by assumption)
     | exact GG (·.s.hi) (Gs1 _ (by assumption)) (by assumption) (by assumption) | exact GF Nt.mi (Fs1 _ (by assumption)) (by assumption)
     | exact GF (·.t.lo) (Fs1 _ (by assumption)) (by assumption) | exact GF (·.t.hi) (Fs1 _ (by assumption)) (by assumption)
     | exact GF (·.s.lo) (Fs1 _ (by assumption)) (by assumption) | exact GF (·.s.hi) (Fs1 _ (by assumption)) (by assumption)
     | exact GF Nt.mi (Gs1 _ (by assumption)) (by assumption) | exact GF (·.t.lo) (Gs1 _ (by assumption)) (by assumption)
     | exact GF (·.t.hi) (Gs1 _ (by assumption)) (by assumption) | exact GF (·.s.lo) (Gs1 _ (by assumption)) (by assumption)
     | exact GF (·.s.hi) (Gs1 _ (by assumption)) (by assumption) | skip
   ·obtain rfl : a = N.length := by omega
    simp only [a1, a2, a3, a4, a5, a6, b1, b2, b3, b4, b5, b6, h2, h3, List.length_nil, true_and, and_true, implies_true, and_self, Nat.le_refl]
    exact ⟨default, trivial⟩
  ·intro a h1 h2 h3
   refine ⟨λ hlt => ?_, λ hge => ?_⟩
   ·(repeat' (first | apply And.intro | intro _ | apply Exists.intro))
    (all_goals try first | exact default | (show ((_ : Nat) : Int) = ((_ : Nat) : Int); rfl) | (exact (ws _ (by omega)).symm))
    all_goals first
     | assumption | rfl | omega | exact Nat.lt_of_le_of_lt (Fl _) (by omega) | exact Nat.lt_of_le_of_lt (Gl _) (by omega)
     | exact Nat.le_trans (Nat.mul_le_mul_right 40 (Nat.succ_le_succ (Fl _))) (by omega) | exact Nat.le_trans (Nat.mul_le_mul_right 40 (Nat.succ_le_succ (Gl _))) (by omega)
     | exact (el1 (Fs1 _ (by assumption)) (by assumption)).1 | exact (el1 (Gs1 _ (by assumption)) (by assumption)).1 | exact (el2 (Fs1 _ (by assumption))).1
     | exact (el2 (Gs1 _ (by assumption))).1 | exact (Fs0 _ (by assumption)).trans (by assumption) | exact (Gs0 _ (by assumption)).trans (by assumption)
     | exact posS (Fs1 _ (by assumption)) | exact posS (Gs1 _ (by assumption)) | (rw [Fs0 _ (by assumption)]; first | done | assumption)
     | (rw [Gs0 _ (by assumption)]; first | done | assumption) | exact GG Nt.mi (Fs1 _ (by assumption)) (by assumption) (by assumption)
     | exact GG (·.t.lo) (Fs1 _ (by assumption)) (by assumption) (by assumption) | exact GG (·.t.hi) (Fs1 _ (by assumption)) (by assumption) (by assumption)
     | exact GG (·.s.lo) (Fs1 _ (by assumption)) (by assumption) (by assumption) | exact GG (·.s.hi) (Fs1 _ (by assumption)) (by assumption) (by assumption)
     | exact GG Nt.mi (Gs1 _ (by assumption)) (by assumption) (by assumption) | exact GG (·.t.lo) (Gs1 _ (by assumption)) (by assumption) (by assumption)
     | exact GG (·.t.hi) (Gs1 _ (by assumption)) (by assumption) (by assumption) | exact GG (·.s.lo) (Gs1 _ (by assumption)) (by assumption) (by assumption)
     | exact GG (·.s.hi) (Gs1 _ (by assumption)) (by assumption) (by assumption) | exact GF Nt.mi (Fs1 _ (by assumption)) (by assumption)
     | exact GF (·.t.lo) (Fs1 _ (by assumption)) (by assumption) | exact GF (·.t.hi) (Fs1 _ (by assumption)) (by assumption)
     | exact GF (·.s.lo) (Fs1 _ (by assumption)) (by assumption) | exact GF (·.s.hi) (Fs1 _ (by assumption)) (by assumption)
     | exact GF Nt.mi (Gs1 _ (by assumption)) (by assumption) | exact GF (·.t.lo) (Gs1 _ (by assumption)) (by assumption)
     | exact GF (·.t.hi) (Gs1 _ (by assumption)) (by assumption) | exact GF (·.s.lo) (Gs1 _ (by assumption)) (by assumption)
     | exact GF (·.s.hi) (Gs1 _ (by assumption)) (by assumption) | skip
   ·obtain rfl : a = N.length := by omega
    simp only [a1, a2, a3, a4, a5, a6, b1, b2, b3, b4, b5, b6, h3, List.length_nil, true_and, and_true, implies_true, and_self, Nat.le_refl]
    exact ⟨default, trivial⟩
  ·intro a h1 h2 h3
   refine ⟨λ hlt => ?_, λ hge => ?_⟩
   ·(repeat' (first | apply And.intro | intro _ | apply Exists.intro))
    (all_goals try first | exact default | (show ((_ : Nat) : Int) = ((_ : Nat) : Int); rfl) | (exact (ws _ (by omega)).symm))
    all_goals first
     | assumption | rfl | omega | exact Nat.lt_of_le_of_lt (Fl _) (by omega) | exact Nat.lt_of_le_of_lt (Gl _) (by omega)
     | exact Nat.le_trans (Nat.mul_le_mul_right 40 (Nat.succ_le_succ (Fl _))) (by omega) | exact Nat.le_trans (Nat.mul_le_mul_right 40 (Nat.succ_le_succ (Gl _))) (by omega)
     | exact (el1 (Fs1 _ (by assumption)) (by assumption)).1 | exact (el1 (Gs1 _ (by assumption)) (by assumption)).1 | exact (el2 (Fs1 _ (by assumption))).1
     | exact (el2 (Gs1 _ (by assumption))).1 | exact (Fs0 _ (by assumption)).trans (by assumption) | exact (Gs0 _ (by assumption)).trans (by assumption)
     | exact posS (Fs1 _ (by assumption)) | exact posS (Gs1 _ (by assumption)) | (rw [Fs0 _ (by assumption)]; first | done | assumption)
     | (rw [Gs0 _ (by assumption)]; first | done | assumption) | exact GG Nt.mi (Fs1 _ (by assumption)) (by assumption) (by assumption)
     | exact GG (·.t.lo) (Fs1 _ (by assumption)) (by assumption) (by assumption) | exact GG (·.t.hi) (Fs1 _ (by assumption)) (by assumption) (by assumption)
     | exact GG (·.s.lo) (Fs1 _ (by assumption)) (by assumption) (by assumption) | exact GG (·.s.hi) (Fs1 _ (by assumption)) (by assumption) (by assumption)
     | exact GG Nt.mi (Gs1 _ (by assumption)) (by assumption) (by assumption) | exact GG (·.t.lo) (Gs1 _ (by assumption)) (by assumption) (by assumption)
     | exact GG (·.t.hi) (Gs1 _ (by assumption)) (by assumption) (by assumption) | exact GG (·.s.lo) (Gs1 _ (by assumption)) (by assumption) (by assumption)
     | exact GG (·.s.hi) (Gs1 _ (by assumption)) (by assumption) (by assumption) | exact GF Nt.mi (Fs1 _ (by assumption)) (by assumption)
     | exact GF (·.t.lo) (Fs1 _ (by assumption)) (by assumption) | exact GF (·.t.hi) (Fs1 _ (by assumption)) (by assumption)
     | exact GF (·.s.lo) (Fs1 _ (by assumption)) (by assumption) | exact GF (·.s.hi) (Fs1 _ (by assumption)) (by assumption)
     | exact GF Nt.mi (Gs1 _ (by assumption)) (by assumption) | exact GF (·.t.lo) (Gs1 _ (by assumption)) (by assumption)
     | exact GF (·.t.hi) (Gs1 _ (by assumption)) (by assumption) | exact GF (·.s.lo) (Gs1 _ (by assumption)) (by assumption)
     | exact GF (·.s.hi) (Gs1 _ (by assumption)) (by assumption) | skip
   ·obtain rfl : a = N.length := by omega
    simp only [a1, a2, a3, a4, a5, a6, b1, b2, b3, b4, b5, b6, h2, List.length_nil, true_and, and_true, implies_true, and_self, Nat.le_refl]
    exact ⟨default, trivial⟩
  ·intro a h1 h2 h3
   refine ⟨λ hlt => ?_, λ hge => ?_⟩
   ·(repeat' (first | apply And.intro | intro _ | apply Exists.intro))
    (all_goals try first | exact default | (show ((_ : Nat) : Int) = ((_ : Nat) : Int); rfl) | (exact (ws _ (by omega)).symm))
    all_goals first
     | assumption | rfl | omega | exact Nat.lt_of_le_of_lt (Fl _) (by omega) | exact Nat.lt_of_le_of_lt (Gl _) (by omega)
     | exact Nat.le_trans (Nat.mul_le_mul_right 40 (Nat.succ_le_succ (Fl _))) (by omega) | exact Nat.le_trans (Nat.mul_le_mul_right 40 (Nat.succ_le_succ (Gl _))) (by omega)
     | exact (el1 (Fs1 _ (by assumption)) (by assumption)).1 | exact (el1 (Gs1 _ (by assumption)) (by assumption)).1 | exact (el2 (Fs1 _ (by assumption))).1
     | exact (el2 (Gs1 _ (by assumption))).1 | exact (Fs0 _ (by assumption)).trans (by assumption) | exact (Gs0 _ (by assumption)).trans (by assumption)
     | exact posS (Fs1 _ (by assumption)) | exact posS (Gs1 _ (by assumption)) | (rw [Fs0 _ (by assumption)]; first | done | assumption)
     | (rw [Gs0 _ (by assumption)]; first | done | assumption) | exact GG Nt.mi (Fs1 _ (by assumption)) (by assumption) (by assumption)
     | exact GG (·.t.lo) (Fs1 _ (by assumption)) (by assumption) (by assumption) | exact GG (·.t.hi) (Fs1 _ (by assumption)) (by assumption) (by assumption)
     | exact GG (·.s.lo) (Fs1 _ (by assumption)) (by assumption) (by assumption) | exact GG (·.s.hi) (Fs1 _ (by assumption)) (by assumption) (by assumption)
     | exact GG Nt.mi (Gs1 _ (by assumption)) (by assumption) (by assumption) | exact GG (·.t.lo) (Gs1 _ (by assumption)) (by assumption) (by assumption)
     | exact GG (·.t.hi) (Gs1 _ (by assumption)) (by assumption) (by assumption) | exact GG (·.s.lo) (Gs1 _ (by assumption)) (by assumption) (by assumption)
     | exact GG (·.s.hi) (Gs1 _ (by assumption)) (by assumption) (by assumption) | exact GF Nt.mi (Fs1 _ (by assumption)) (by assumption)
     | exact GF (·.t.lo) (Fs1 _ (by assumption)) (by assumption) | exact GF (·.t.hi) (Fs1 _ (by assumption)) (by assumption)
     | exact GF (·.s.lo) (Fs1 _ (by assumption)) (by assumption) | exact GF (·.s.hi) (Fs1 _ (by assumption)) (by assumption)
     | exact GF Nt.mi (Gs1 _ (by assumption)) (by assumption) | exact GF (·.t.lo) (Gs1 _ (by assumption)) (by assumption)
     | exact GF (·.t.hi) (Gs1 _ (by assumption)) (by assumption) | exact GF (·.s.lo) (Gs1 _ (by assumption)) (by assumption)
     | exact GF (·.s.hi) (Gs1 _ (by assumption)) (by assumption) | skip
   ·obtain rfl : a = N.length := by omega
    simp only [a1, a2, a3, a4, a5, a6, b1, b2, b3, b4, b5, b6, List.length_nil, true_and, and_true, implies_true, and_self, Nat.le_refl]
    exact ⟨default, trivial⟩
  ·simp only [cond_false, true_implies, Bool.false_eq_true, false_implies, true_and, and_true]
   refine ⟨⟨⟨⟨by omega, by omega, by omega⟩, ⟨λ i hi => by rw [eA i hi]; exact ⟨rfl, rfl⟩, by omega⟩, ⟨by omega, by omega, by omega⟩, λ i hi => by rw [eB i hi]; exact ⟨rfl, rfl⟩, by omega⟩, default, trivial⟩, ⟨⟨⟨by omega, by omega⟩, ⟨by omega, by omega⟩, by omega, by omega⟩, default, trivial⟩, ⟨by omega, by omega, by decide⟩, ⟨k1, k2⟩, λ h => ⟨⟨by omega, by omega, by decide⟩, ?_⟩, λ h => ⟨⟨by omega, by omega, by decide⟩, ?_⟩⟩
   ·rw [sB h, sC]; simp
   ·rw [sA h, sC]; simp
theorem CZV (x : PaI) (hb : ∀ i, i < x.bs.length -> 0 <= gD x.bs i /\ gD x.bs i <= 255) : FnT Try.prog BKA (xPa x) (AG []) (.bool true) [] :=
 UV (A := A_Pa x) (ren := []) (fz := []) BZK (by kernel_rfl) (AC CXP (AC CKC (AC CQT (AC CWG (AC BXE (AC CFJ (AC BYG (AC CMF AJ)))))))) (p_Pa x (CHP x hb))
end Go.Bal
