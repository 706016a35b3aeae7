/- Package rating: Rate, Knots. -/
import Derived.Test.YtoihhodbkimedaaGreatRatT
set_option linter.unusedVariables false
set_option linter.unusedSimpArgs false
namespace Go.Bal
open Go Go.Sym Go.Proofs
def C_Rate : Ctr := { C_few with val := λ (g : List Gau) => .tup [.d (E4 (BS g).r), .int (BS g).e] }
def BLS (g : List Gau) : Prop := AO Try.prog (ann 15 [(WO, C_few.spec JW)]) AVN (AF AVN) (C_Rate.xs g) (AC []) (C_Rate.val g) [] [] []
theorem BPB (g : List Gau) : (BLS g) = (((AD g.length λ (i : Nat) => gD g i).length = g.length /\ (∀ (i : Nat), i < (AD g.length λ (i : Nat) => gD g i).length -> (gD (AD g.length λ (i : Nat) => gD g i)
 i).st = (gD g i).st /\ (gD (AD g.length λ (i : Nat) => gD g i) i).lo = (gD g i).lo /\ (gD (AD g.length λ (i : Nat) => gD g i) i).hi = (gD g i).hi) /\ (AD g.length λ (i : Nat) => gD g i).length < 20 /\ True) /\ (BS
 g).r.b.length = (BS (AD g.length λ (i : Nat) => gD g i)).r.b.length /\ (∀ (i : Nat), i < (BS g).r.b.length -> gD (BS g).r.b i = gD (BS (AD g.length λ (i : Nat) => gD g i)).r.b i) /\ (BS g).r.l.length = (BS
 (AD g.length λ (i : Nat) => gD g i)).r.l.length /\ (∀ (i : Nat), i < (BS g).r.l.length -> (gD (BS g).r.l i).a0 = (gD (BS (AD g.length λ (i : Nat) => gD g i)).r.l i).a0 /\ (gD (BS g).r.l i).a1 = (gD (BS (AD
 g.length λ (i : Nat) => gD g i)).r.l i).a1 /\ (gD (BS g).r.l i).b0 = (gD (BS (AD g.length λ (i : Nat) => gD g i)).r.l i).b0 /\ (gD (BS g).r.l i).b1 = (gD (BS (AD g.length λ (i : Nat) => gD g i)).r.l i).b1)
 /\ (BS g).e = (BS (AD g.length λ (i : Nat) => gD g i)).e) := by kernel_rfl
def C_Knots : Ctr := { C_few with val := λ (g : List Gau) => .tup [.d (eLL (BS g).k), .int (BS g).e] }
def BCK (g : List Gau) : Prop := AO Try.prog (ann 15 [(WO, C_few.spec JW)]) ARH (AF ARH) (C_Knots.xs g) (AC []) (C_Knots.val g) [] [] []
theorem BIG (g : List Gau) : (BCK g) = (((AD g.length λ (i : Nat) => gD g i).length = g.length /\ (∀ (i : Nat), i < (AD g.length λ (i : Nat) => gD g i).length -> (gD (AD g.length λ (i : Nat) => gD g i)
 i).st = (gD g i).st /\ (gD (AD g.length λ (i : Nat) => gD g i) i).lo = (gD g i).lo /\ (gD (AD g.length λ (i : Nat) => gD g i) i).hi = (gD g i).hi) /\ (AD g.length λ (i : Nat) => gD g i).length < 20 /\ True) /\ (BS
 g).k.length = (BS (AD g.length λ (i : Nat) => gD g i)).k.length /\ (∀ (i : Nat), i < (BS g).k.length -> (gD (BS g).k i).length = (gD (BS (AD g.length λ (i : Nat) => gD g i)).k i).length /\ ∀ (i_1 : Nat), i_1 <
 (gD (BS g).k i).length -> gD (gD (BS g).k i) i_1 = gD (gD (BS (AD g.length λ (i : Nat) => gD g i)).k i) i_1) /\ (BS g).e = (BS (AD g.length λ (i : Nat) => gD g i)).e) := by kernel_rfl
theorem BQC : AG Try.prog AXR (C_Rate.spec JW) := GD C_Rate (λ _ => ann 15 [(WO, C_few.spec JW)]) [] [] BOG (λ _ => by kernel_rfl) (λ _ => AB BHO AE) (λ (g : List Gau) h => by
 show BLS g; rw [BPB]; simp only [CC, eq_self, implies_true, forall_const]
 exact (show g.length < 20 /\ True from h).1) (λ _ => GJ rfl rfl) _
theorem BHK : AG Try.prog ALM (C_Knots.spec JW) := GD C_Knots (λ _ => ann 15 [(WO, C_few.spec JW)]) [] [] BHQ (λ _ => by kernel_rfl) (λ _ => AB BHO AE) (λ (g : List Gau) h => by
 show BCK g; rw [BIG]; simp only [CC, eq_self, implies_true, forall_const]
 exact (show g.length < 20 /\ True from h).1) (λ _ => GJ rfl rfl) _
end Go.Bal
