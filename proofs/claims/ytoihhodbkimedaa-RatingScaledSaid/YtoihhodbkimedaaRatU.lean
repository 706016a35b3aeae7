/- Package rating: Rate, Knots. -/
import Derived.Test.YtoihhodbkimedaaRatT
set_option linter.unusedVariables false
set_option linter.unusedSimpArgs false
namespace Go.Bal
open Go Go.Sym Go.Proofs
def C_Rate : Ctr := { C_few with val := λ (g : List Gau) => .tup [.d (eRtg (AU g).r), .int (AU g).e] }
def BVK (g : List Gau) : Prop := AY Try.prog (ann 15 [(ZH, C_few.spec UV)]) BOF (AF BOF) (C_Rate.xs g) (AC []) (C_Rate.val g) [] [] []
theorem CFG (g : List Gau) : (BVK g) = (((AD g.length λ (i : Nat) => gD g i).length = g.length /\ (∀ (i : Nat), i < (AD g.length λ (i : Nat) => gD g i).length -> (gD (AD g.length λ (i : Nat) => gD g i)
 i).st = (gD g i).st /\ (gD (AD g.length λ (i : Nat) => gD g i) i).lo = (gD g i).lo /\ (gD (AD g.length λ (i : Nat) => gD g i) i).hi = (gD g i).hi) /\ (AD g.length λ (i : Nat) => gD g i).length < 20 /\ True) /\ (AU
 g).r.b.length = (AU (AD g.length λ (i : Nat) => gD g i)).r.b.length /\ (∀ (i : Nat), i < (AU g).r.b.length -> gD (AU g).r.b i = gD (AU (AD g.length λ (i : Nat) => gD g i)).r.b i) /\ (AU g).r.l.length = (AU
 (AD g.length λ (i : Nat) => gD g i)).r.l.length /\ (∀ (i : Nat), i < (AU g).r.l.length -> (gD (AU g).r.l i).a0 = (gD (AU (AD g.length λ (i : Nat) => gD g i)).r.l i).a0 /\ (gD (AU g).r.l i).a1 = (gD (AU (AD
 g.length λ (i : Nat) => gD g i)).r.l i).a1 /\ (gD (AU g).r.l i).b0 = (gD (AU (AD g.length λ (i : Nat) => gD g i)).r.l i).b0 /\ (gD (AU g).r.l i).b1 = (gD (AU (AD g.length λ (i : Nat) => gD g i)).r.l i).b1)
 /\ (AU g).e = (AU (AD g.length λ (i : Nat) => gD g i)).e) := by kernel_rfl
def C_Knots : Ctr := { C_few with val := λ (g : List Gau) => .tup [.d (eLL (AU g).k), .int (AU g).e] }
def BPZ (g : List Gau) : Prop := AY Try.prog (ann 15 [(ZH, C_few.spec UV)]) BET (AF BET) (C_Knots.xs g) (AC []) (C_Knots.val g) [] [] []
theorem BYA (g : List Gau) : (BPZ g) = (((AD g.length λ (i : Nat) => gD g i).length = g.length /\ (∀ (i : Nat), i < (AD g.length λ (i : Nat) => gD g i).length -> (gD (AD g.length λ (i : Nat) => gD g i)
 i).st = (gD g i).st /\ (gD (AD g.length λ (i : Nat) => gD g i) i).lo = (gD g i).lo /\ (gD (AD g.length λ (i : Nat) => gD g i) i).hi = (gD g i).hi) /\ (AD g.length λ (i : Nat) => gD g i).length < 20 /\ True) /\ (AU
 g).k.length = (AU (AD g.length λ (i : Nat) => gD g i)).k.length /\ (∀ (i : Nat), i < (AU g).k.length -> (gD (AU g).k i).length = (gD (AU (AD g.length λ (i : Nat) => gD g i)).k i).length /\ ∀ (i_1 : Nat), i_1 <
 (gD (AU g).k i).length -> gD (gD (AU g).k i) i_1 = gD (gD (AU (AD g.length λ (i : Nat) => gD g i)).k i) i_1) /\ (AU g).e = (AU (AD g.length λ (i : Nat) => gD g i)).e) := by kernel_rfl
theorem BHF : AG Try.prog BFT (C_Rate.spec UV) := JX C_Rate (λ _ => ann 15 [(ZH, C_few.spec UV)]) [] [] CDJ (λ _ => by kernel_rfl) (λ _ => AB CAP AE) (λ (g : List Gau) h => by
 show BVK g; rw [CFG]; simp only [CC, eq_self, implies_true, forall_const]
 exact (show g.length < 20 /\ True from h).1) (λ _ => KJ rfl rfl) _
theorem CAJ : AG Try.prog BHR (C_Knots.spec UV) := JX C_Knots (λ _ => ann 15 [(ZH, C_few.spec UV)]) [] [] CCQ (λ _ => by kernel_rfl) (λ _ => AB CAP AE) (λ (g : List Gau) h => by
 show BPZ g; rw [BYA]; simp only [CC, eq_self, implies_true, forall_const]
 exact (show g.length < 20 /\ True from h).1) (λ _ => KJ rfl rfl) _
end Go.Bal
