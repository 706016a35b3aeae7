/- Law ChartLater: it returns true. -/
import Derived.Test.YtdbjalgfomknhaaChLa2
import Derived.Test.YtdbjalgfomknhaaChP
import Derived.Test.YtdbjalgfomknhaaChWT1
set_option linter.unusedVariables false
set_option linter.unusedSimpArgs false
namespace Go.Bal
open Go Go.Sym Go.Proofs
theorem CQT (f : Nat -> Int) : AE 0 f = nilI := rfl
theorem CZD (x : LaI) (i : Nat) : L8 x 0 i = gD (AO x).ns i := by
 simp only [L8, decide_eq_false (Nat.not_lt_zero i), cond_false]
theorem CXP (x : LaI) (k i : Nat) : L8 x (k + 1) i = bif decide (i = k) then G4 (IV x) (PM x) (L8 x k k) else L8 x k i := by
 simp only [L8]
 by_cases h : i = k
 ·subst h
  rw [decide_eq_true (Nat.lt_succ_self i), decide_eq_true rfl, decide_eq_false (Nat.lt_irrefl i)]; simp only [cond_true, cond_false]
 ·rw [decide_eq_false h]
  by_cases h2 : i < k
  ·rw [decide_eq_true h2, decide_eq_true (Nat.lt_succ_of_lt h2)]; simp only [cond_true, cond_false]
  ·rw [decide_eq_false h2, decide_eq_false (show ¬ i < k + 1 by omega)]; simp only [cond_false]
theorem CYG (x : LaI) {i : Nat} (hi : i < (AO x).ns.length) : L8 x (AO x).ns.length i = G4 (IV x) (PM x) (gD (AO x).ns i) := by
 simp only [L8, decide_eq_true hi, cond_true]
set_option maxHeartbeats 4000000 in
theorem CZF (x : LaI) (hf : LaF x) (h0 : (AO x).ns.length = 0) : CQC x := by
 obtain ⟨hs, ⟨n1, n2⟩, n3, n4, fe, on, tm, fo, k⟩ := hf
 rw [CTG]; delta BLL wE ANI AOU BNC BKB BRR BTL Gb BRD B5 xI Rv xT E6 AXS wL vB BHL Nd BGF BFT BCQ BCC BBK BFV E9 Ow ARK yJ vL ATL BEO AUY ATX BDZ AUM ATK BGE BCO BEF AQL AYM BGN K1 BHS BHT ART; simp only [CC, eq_self, implies_true, forall_const, CQT, BSD, show MkI.mk (Stm.mk x.bs 0 0) 12 true = laM x from rfl, show GQ (laM x) = AO x from rfl, show qX (laM x) = PD x from rfl, BH, h0]
 have e1 : FQ x.r 1000 = PM x := by simp only [PM]
 have e2 : FQ x.d 100000 = IV x := by simp only [IV]
 simp only [e1, e2]
 clear tm fo k fe n4
 generalize AO x = C at *
 generalize PM x = U at *
 generalize IV x = D at *
 exact ⟨⟨rfl, hs, by decide, by decide⟩, ⟨λ i hi => absurd hi (Nat.not_lt_zero _), by omega⟩, ⟨⟨default, trivial, trivial, rfl⟩, default, trivial⟩, λ h => by cases h⟩
set_option maxHeartbeats 4000000 in
theorem CYN (x : LaI) (hf : LaF x) (h0 : 0 < (AO x).ns.length) : CRM x := by
 obtain ⟨hs, ⟨n1, n2⟩, n3, n4, fe, on, ⟨tm1, tm2, tm3⟩, fo, k⟩ := hf
 obtain ⟨fo1, fo2⟩ := fo h0
 obtain ⟨k1, k2, k3, k4, k5, k6⟩ := k h0
 have eO : YU (AO x) (IV x) (PM x) = CG x := by simp only [CG, YU]
 have oM : (CG x).ms.length = (AO x).ms.length := by rw [<- eO]; simp only [YU]
 have oN : (CG x).ns = (AO x).ns.map (G4 (IV x) (PM x)) := by rw [<- eO]; simp only [YU]
 have oB : (CG x).p = (AO x).p /\ (CG x).base = wr ((AO x).base + PM x) /\ (CG x).scale = (AO x).scale /\ (CG x).off = (AO x).off /\ (CG x).ms = (AO x).ms := by rw [<- eO]; simp only [YU, and_self]
 have j5 := k5 (PH x)
 have j6 := k6 (PH x) (PH x + 90) (Int.le_add_of_nonneg_right (by decide))
 clear k5 k6
 simp only [eO] at k1 k2 k4 j5 j6
 have e1 : FQ x.r 1000 = PM x := by simp only [PM]
 have e2 : FQ x.d 100000 = IV x := by simp only [IV]
 have eA : laA x = IT ⟨AO x, nilI⟩ := by simp only [laA]
 have eQ : laQ x = IT ⟨CG x, nilI⟩ := by simp only [laQ]
 have eX : IntKind.i64.wrap (gD (PD x).t (Int.toNat 0) + FQ x.t 300) = PH x := by simp only [PH, wr]; rfl
 have tm1 : IntKind.i64.wrap (PH x + IV x) = PH x + IV x := tm1
 have tm2 : IntKind.i64.wrap (PH x + 90) = PH x + 90 := tm2
 have tm3 : IntKind.i64.wrap (PH x + IV x + 90) = PH x + 90 + IV x := tm3
 have eV : laV x = BD ⟨⟨AO x, nilI⟩, PH x⟩ := by simp only [laV]
 have eW : laW x = BD ⟨⟨CG x, nilI⟩, PH x + IV x⟩ := by simp only [laW, wr, tm1]
 have R0 := CZD x
 have Rs := CXP x
 have Re : ∀ i, i < (AO x).ns.length -> L8 x (AO x).ns.length i = G4 (IV x) (PM x) (gD (AO x).ns i) := λ i hi => CYG x hi
 rw [CWC]; delta BPE A9 AQD APH BKG BSK BQY BLT Gp BSJ xF vJ Td yO wG ASS wF vX AUN Vn BDW ASQ AQS AQV BAV BCA A7 Mg AXW Dn A4 BGR AWO BCD BHK BBE BBR BFU BGH ASM BGG BGK ASN BEH BBN AUO ARW BEB BGC AXA xN ARY AWU AVL Ki SO AYT BEE F8 OG ZW BBQ HE HT TK UA OH Cc xU wC wR zZ K6 xY HV xS C2 D3 ASV AUH AQR BAN BFB AXB BFI ATH ATY J2 AWD AUK TX TL AQQ AUB BFM BCU AZI G8 zV yH Di AHG Av Zb ZL Bx dZ S5 AHL ZM Yd cT Z4 cL bJ Cm ABS Bi fJ Ae Ag dU ACK W7 Ai cS cB dM bW z_LaN_129 dW M6 cF ADU N3 AJI AHT AKU ACU N7 AKE AKN Cl Y2 Dx ALV AGX Ci ACY Bc aY ADC T9 S0 AFT IG N9 AHV QU R2 AJG ADB AKV Z2 ALM AEK AAK AFL AGZ AAW cX cP ABL AAO ADZ V7 U4; simp only [CC, eq_self, implies_true, forall_const, CQT, BSD, show MkI.mk (Stm.mk x.bs 0 0) 12 true = laM x from rfl, show GQ (laM x) = AO x from rfl, show qX (laM x) = PD x from rfl, BH, e1, e2, eX, tm1, tm2, tm3, eV, eW, eA, eQ, fe, fo1, fo2]; simp only [oM]
 clear fo k eA eQ eX eV eW e1 e2 fe fo1 fo2 eO
 generalize IT ⟨AO x, nilI⟩ = A at *
 generalize IT ⟨CG x, nilI⟩ = Q at *
 generalize BD ⟨⟨AO x, nilI⟩, PH x⟩ = SU at *
 generalize BD ⟨⟨CG x, nilI⟩, PH x + IV x⟩ = SV at *
 generalize CQ ⟨⟨AO x, nilI⟩, PH x, PH x + 90⟩ = PU at *
 generalize CQ ⟨⟨CG x, nilI⟩, PH x + IV x, PH x + 90 + IV x⟩ = PV at *
 clear tm1 tm2 tm3
 generalize DA (AO x) = Fc at *
 generalize DA (CG x) = Fo at *
 generalize L8 x = R at *
 generalize CG x = O at *
 generalize PH x = X at *
 generalize PD x = T at *
 generalize AO x = C at *
 generalize PM x = U at *
 generalize IV x = D at *
 have ol : O.ns.length = C.ns.length := by rw [oN, List.length_map]
 obtain ⟨o1, o2, o3, o4, o5⟩ := oB
 have ws : ∀ a : Nat, a <= 60 -> IntKind.i64.wrap ((a : Int) + 1) = ((a + 1 : Nat) : Int) := λ a h => FE (by omega)
 have hN : ∀ (n m : Nat), n <= 40 -> m <= 40 -> nilI.length = 0 /\ nilI.length = 0 /\ n < 4611686018427387904 /\ m < 4611686018427387904 /\ nilI.length < 4611686018427387904 := λ n m h1 h2 => ⟨rfl, rfl, by omega, by omega, by decide⟩
 refine ⟨⟨rfl, hs, by decide, by decide⟩, ⟨by omega, h0, by omega⟩, ⟨⟨0, ⟨rfl, rfl, λ i _ => by rw [R0]; exact ⟨rfl, rfl, rfl, rfl, rfl⟩⟩, Nat.zero_le _⟩, λ k hk => ⟨λ hlt => ⟨⟨by omega, hlt⟩, by omega, k + 1, ⟨(ws k (by omega)).symm, λ i hi => ?_⟩, by omega, by omega⟩, λ hge => ?_⟩⟩, (λ _ => ⟨default, trivial⟩), ⟨by omega, by omega, by decide⟩, ⟨by omega, by omega, by decide⟩, ⟨⟨by omega, by omega⟩, λ _ => n3⟩, ⟨⟨by omega, by omega⟩, λ _ => by omega⟩, λ h => ?_, λ _ => ⟨⟨0, ?_, Nat.zero_le _⟩, λ k hk => ⟨λ hlt => ⟨⟨⟨by omega, by omega⟩, by omega, hlt⟩, λ h => ?_, λ _ => ⟨k + 1, (ws k (by omega)).symm, by omega, by omega⟩⟩, λ hge => ⟨⟨⟨by decide, by omega⟩, default, trivial⟩, hN _ _ (by omega) (by omega), hN _ _ (by omega) (by omega), ⟨λ h => ?_, λ _ => ⟨default, ?_⟩⟩, hN _ _ (by omega) (by omega), hN _ _ (by omega) (by omega), ?_⟩⟩⟩⟩
 ·rw [Rs k i]
  cases decide (i = k) <;> exact ⟨rfl, rfl, rfl, rfl, rfl⟩
 ·obtain rfl : k = C.ns.length := by omega
  refine ⟨default, by rw [o1], by rw [o1], o2, o3, o4, trivial, λ _ _ => by rw [o5]; exact ⟨rfl, rfl⟩, ol, Nat.le_refl _, λ j hj => ?_⟩
  rw [oN, APA D U C.ns (by omega), Re j (by omega)]; exact ⟨rfl, rfl, rfl, rfl, rfl⟩
 ·rw [k1, k2] at h
  simp at h
 ·exact rfl
 ·obtain ⟨q1, q2⟩ := k4 k (by omega)
  rw [q1, q2] at h
  simp at h
 ·obtain ⟨q1, q2⟩ := j5
  by_cases z : SU.2 = 0
  ·obtain ⟨q3, q4⟩ := q2 z
   rw [<- q1, z, q3, q4] at h
   simp at h
  ·have z' : (SU.2 == 0) = false := by simpa using z
   rw [<- q1, z'] at h
   simp at h
 ·trivial
 ·obtain ⟨q1, q2⟩ := j6
  by_cases z : PU.2 = 0
  ·obtain ⟨q3, q4⟩ := q2 z
   rw [<- q1, z, q3, q4]
   simp
  ·have z' : (PU.2 != 0) = true := by simpa using z
   rw [<- q1, z']
   simp
theorem CZL (x : LaI) (hb : ∀ i, i < x.bs.length -> 0 <= gD x.bs i /\ gD x.bs i <= 255) : FnT Try.prog BWS (xLa x) (AF []) (.bool true) [] := by
 have hf := CIO x hb
 rcases Nat.eq_zero_or_pos (AO x).ns.length with h0 | h0
 ·exact QX (A := A_La false x) (ren := []) (fz := []) BJD (by kernel_rfl) (AD CHN (AD BVP (AD CBO (AD CVI (AD AUZ (AD BDV (AD ATJ (AD BNQ (AD BUY AI))))))))) (CZF x hf h0)
 ·exact QX (A := A_La true x) (ren := []) (fz := []) BJD (by kernel_rfl) (AD CHN (AD BVP (AD CBO (AD CUA (AD AUZ (AD BDV (AD ATJ (AD BNQ (AD BUY AI))))))))) (CYN x hf h0)
end Go.Bal
