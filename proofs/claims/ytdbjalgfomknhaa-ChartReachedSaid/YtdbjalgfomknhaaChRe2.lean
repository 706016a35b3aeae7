/- Law ChartReached: it returns true. -/
import Derived.Test.YtdbjalgfomknhaaChRe1
import Derived.Test.YtdbjalgfomknhaaChP
import Derived.Test.YtdbjalgfomknhaaChWT1
set_option linter.unusedVariables false
set_option linter.unusedSimpArgs false
namespace Go.Bal
open Go Go.Sym Go.Proofs
theorem DTY (x : ReI) (k i : Nat) : reR x 0 i = trS (Zz x k) i := by
 simp only [reR, trS, Zz, reZ, decide_true, cond_true]
theorem bb (b c : Bool) (w v p : Int) : (bif b then w else p) = bif b then w else bif c then p else bif b then v else p := by cases b <;> cases c <;> rfl
theorem DUZ (x : ReI) (j i : Nat) : reR x (j + 1) i = bif decide (i = (KA x).toNat) then gD (reW x) j else reR x j i := by
 have e : decide (j + 1 = 0) = false := decide_eq_false (Nat.succ_ne_zero j)
 simp only [reR, e, cond_false, Nat.add_sub_cancel]
 exact bb _ _ _ _ _
theorem gD_2 (a b : Int) : ∀ j, j < 2 -> gD [a, b] j = bif decide (j = 0) then a else b
 | 0, _ => rfl
 | 1, _ => rfl
theorem DUR (a b c : Int) : ∀ j, j < 3 -> gD [a, b, c] j = bif decide (j = 0) then a else bif decide (j - 1 = 0) then b else c
 | 0, _ => rfl
 | 1, _ => rfl
 | 2, _ => rfl
set_option maxHeartbeats 2000000 in
theorem p_Re (x : ReI) (hb : ∀ i, i < x.bs.length -> 0 <= gD x.bs i /\ gD x.bs i <= 255) : V_Re x := by
 obtain ⟨pre, md, rd, tm, st, zl, ⟨n1, n2⟩, hs, ⟨hl, hl2⟩, ix, tr, h1, ⟨bl, bw⟩, lo, hi⟩ := DIA x hb
 clear pre md
 rw [DTP]; delta CTM BVC CJP CNS CSY CTW CUM CTX P7 CGR BKO CEV BJJ CMC Y8 CLE AJT CEW ABS CMK CKB ADF BIN BIL BLE CFX CMV CNE COO CKL CPB BJK ABQ BIF BIR CHQ BMC CKD CJM CLW CID CPJ CGP CLZ COG CEZ COZ BIJ CHM BLC BKG BLI BKM CPC CFR CKM CLK CLX CLS AGW CJJ CNB CNH CKX CKR CJL AFD Am jD lB AFC AAY CMR CIL AJQ RW RX Aj BLZ BKC BJL BKB BLN BLX BIH AEG AEC BKX BJQ Cf fT CJC nM BLW BKL nZ BKA COW CLG oQ Fe bK Ge BXF Ft BRH ADL AET Zx CBU ADP Yr CBI CCE BPH ADV BXC ACN Z5 ABE BTE MF cM AFN AEQ CCW bS Ux Xs BYV CAO Xb ACT BQT BWO BPD BXD BTM BYT BNR BSJ BWJ BPA CAW BVL BVK ADH AGG BYH BSA BOA BXU CCX AFK ACU; simp only [AU, eq_self, implies_true, and_self, true_and, and_true, true_implies, forall_const, decide_eq_true_eq, decide_eq_false_iff_not, Int.toNat_natCast, dSpan_eSpan, dInt_eInt, AY, AW, AX, Nat.zero_add, Int.zero_sub, Nat.le_eq, Nat.succ_eq_add_one, Nat.add_one_le_iff, Bool.not_eq_true', Bool.not_eq_false', rng_length, AK, AJ, show MkI.mk (Stm.mk x.bs 0 0) 12 true = reM x from rfl, show ID (reM x) = BN x from rfl, show mdT (reM x) = ZD x from rfl, BI, show CZ.mk (BN x) (ZD x).z = reZ x from rfl, tm, st]
 have eA : gD (reL x) (KA x).toNat = Y5 x := by simp only [Y5]
 have eB : gD (reS x) (KA x).toNat = reB x := by simp only [reB]
 have eX : IntKind.i64.wrap ((Y5 x).lo + QC x.t (IntKind.i64.wrap (IntKind.i64.wrap ((Y5 x).hi - (Y5 x).lo) + 1))) = reX x := by simp only [reX, wr]
 have eT : ∀ k, TrI.mk (reZ x) (KA x) (gD (reV x) k) = Zz x k := λ k => by simp only [Zz]
 have eI : QC x.m ((BN x).ms.length : Int) = KA x := by simp only [KA]
 have e3 : (reV x).length = 3 := by simp only [reV]; rfl
 have e2 : (reW x).length = 2 := by simp only [reW]; rfl
 simp only [hl, hl2, eA, eB, eX, eT, eI, e3, e2, rd]
 have r0 := DTY x
 have rs := DUZ x
 have v3 : ∀ j, j < 3 -> gD (reV x) j = bif decide (j = 0) then (Y5 x).lo else bif decide (j - 1 = 0) then (Y5 x).hi else reX x := by simp only [reV]; exact DUR _ _ _
 have w2 : ∀ j, j < 2 -> gD (reW x) j = bif decide (j = 0) then (reB x).lo else (reB x).hi := by simp only [reW]; exact gD_2 _ _
 have lo' : (PG ⟨reZ x, KA x, IntKind.i64.wrap ((Y5 x).lo - 1)⟩).all DZ = false := lo
 have hi' : (PG ⟨reZ x, KA x, IntKind.i64.wrap ((Y5 x).hi + 1)⟩).all DZ = false := hi
 have bw : IntKind.i64.wrap ((reB x).hi + 1) = (reB x).hi + 1 := bw
 have h1 : ∀ k, k < 3 -> ∀ j v, IK ⟨BN x, ⟨AF (BN x).ms.length λ i => To (Zz x k) i, AF (BN x).ms.length λ i => bif decide (i = (KA x).toNat) then v else reR x j i, (ZD x).z⟩⟩ = (decide ((reB x).lo <= v /\ v <= (reB x).hi), 0) := h1
 simp only [bw, lo', hi']
 clear lo hi lo' hi' eA eB eX eT eI tm st hb rd
 generalize reZ x = Z at *
 generalize reR x = R at *
 generalize Zz x = Tk at *
 generalize BN x = C at *
 generalize ZD x = T at *
 generalize reL x = L at *
 generalize reS x = S at *
 generalize KA x = I at *
 generalize Y5 x = A at *
 generalize reB x = B at *
 generalize reX x = X at *
 generalize reV x = V at *
 generalize reW x = W at *
 have b3 : ∀ n : Nat, ((n : Int) != (n : Int)) = false := λ n => by simp
 have b0 : ((0 : Int) != 0) = false := rfl
 have z1 : T.z.length < 4611686018427387904 := by omega
 have in1 : I.toNat < C.ms.length := by omega
 have rg : ∀ {f : Nat -> Int} {i : Nat}, i < C.ms.length -> gD (AF C.ms.length f) i = f i := λ h => BD _ _ _ h
 simp only [b3, b0, cond_false]
 refine ⟨⟨rfl, hs, by decide, by decide⟩, ⟨by omega, by omega, z1⟩, ⟨by omega, by omega⟩, (λ h => by cases h), λ _ => ⟨⟨default, trivial⟩, ⟨ix, ⟨0, ⟨trivial, by decide, v3, rfl⟩, Nat.zero_le _⟩, λ k hk => ⟨λ hlt => ?_, λ _ => ⟨default, trivial⟩⟩⟩, ?_⟩⟩
 ·have hk3 : k < 3 := by omega
  obtain ⟨t1, t2⟩ := tr k hk3
  have tb : (To (Tk k) I.toNat != gD V k) = false := by rw [t2]; simp
  refine ⟨⟨by omega, by omega⟩, ⟨⟨⟨by omega, by omega, z1⟩, trivial, ix⟩, t1⟩, ⟨λ _ => ix, λ _ => in1⟩, (λ h => by rw [tb] at h; cases h), λ _ => ⟨ix, ⟨⟨k, 0⟩, ⟨rfl, trivial, by decide, w2, rfl, λ _ _ => rfl, λ i _ => r0 k i⟩, ⟨hk3, rfl⟩, Nat.zero_le _⟩, ?_⟩⟩
  rintro ⟨k2, j⟩ ⟨⟨q1, q2⟩, q3⟩
  dsimp only at q1 q2 q3 ⊢
  obtain rfl : k2 = k := by omega
  refine ⟨λ hj => ?_, λ hj => ?_⟩
  ·have hj2 : j < 2 := by omega
   have inB : B.lo <= gD W j /\ gD W j <= B.hi := by
    rw [w2 j hj2]
    cases decide (j = 0)
    ·exact ⟨bl, Int.le_refl _⟩
    ·exact ⟨Int.le_refl _, bl⟩
   rw [h1 k2 hk3 j (gD W j), decide_eq_true inB]
   refine ⟨⟨by omega, by omega⟩, ⟨ix, in1⟩, ⟨λ i hi => rg hi, λ i hi => rg hi, λ i hi => (rg hi).symm, λ i hi => (rg (f := λ i => bif decide (i = I.toNat) then gD W j else R j i) hi).symm, ⟨by omega, by omega, z1⟩, by omega⟩, (λ h => by cases h), λ _ => ⟨⟨k2, j + 1⟩, ⟨rfl, ?_, λ _ _ => rfl, λ i _ => rs j i⟩, ⟨⟨hk3, rfl⟩, by show j + 1 <= 2; omega⟩, by show 2 - (j + 1) < 2 - j; omega⟩⟩
   show ((j + 1 : Nat) : Int) = IntKind.i64.wrap ((j : Int) + 1)
   exact (FM (by omega)).symm
  ·have nB : ¬ (B.lo <= B.hi + 1 /\ B.hi + 1 <= B.hi) := by omega
   rw [h1 k2 hk3 j (B.hi + 1), decide_eq_false nB]
   exact ⟨⟨ix, ix, in1⟩, ⟨λ i hi => rg hi, λ i hi => rg hi, λ i hi => (rg hi).symm, λ i hi => (rg (f := λ i => bif decide (i = I.toNat) then B.hi + 1 else R j i) hi).symm, ⟨by omega, by omega, z1⟩, by omega⟩, (λ h => by cases h), λ _ => ⟨k2 + 1, (FM (by omega)).symm, by omega, by omega⟩⟩
 ·have q : C.ms.length < 4611686018427387904 /\ C.ns.length < 4611686018427387904 /\ T.z.length < 4611686018427387904 := ⟨by omega, by omega, z1⟩
  exact ⟨⟨ix, ⟨q, trivial, ix⟩, trivial⟩, ix, ⟨q, trivial, ix⟩, trivial⟩
theorem DVE (x : ReI) (hb : ∀ i, i < x.bs.length -> 0 <= gD x.bs i /\ gD x.bs i <= 255) : FnT Try.prog BTX (xRe x) (AG []) (.bool true) [] :=
 PJ (A := A_Re x) (ren := []) (fz := []) CPZ (by kernel_rfl) (AD DSB (AD DEG (AD CQH (AD CRS (AD DLJ (AD (DRS DLP DKA) (AD DIF (AD DGG AI)))))))) (p_Re x hb)
end Go.Bal
