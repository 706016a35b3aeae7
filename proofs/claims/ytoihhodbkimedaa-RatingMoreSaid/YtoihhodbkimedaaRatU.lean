/- Package rating: Rate, Knots. -/
import Derived.Test.YtoihhodbkimedaaRatT
set_option linter.unusedVariables false
set_option linter.unusedSimpArgs false
namespace Go.Bal
open Go Go.Sym Go.Proofs
def C_Rate : Ctr := { C_few with val := λ (g : List Gau) => .tup [.d (eRtg (fewM g).r), .int (fewM g).e] }
def V_Rate (g : List Gau) : Prop := fnVC Try.prog (ann 15 [(n_fewest, C_few.spec dGs1)]) F_Rate (bodyOf F_Rate) (C_Rate.xs g) (heapOf []) (C_Rate.val g) [] [] []
theorem vc_Rate (g : List Gau) : (V_Rate g) = (((rng g.length λ (i : Nat) => gD g i).length = g.length /\ (∀ (i : Nat), i < (rng g.length λ (i : Nat) => gD g i).length -> (gD (rng g.length λ (i : Nat) => gD g i)
 i).st = (gD g i).st /\ (gD (rng g.length λ (i : Nat) => gD g i) i).lo = (gD g i).lo /\ (gD (rng g.length λ (i : Nat) => gD g i) i).hi = (gD g i).hi) /\ (rng g.length λ (i : Nat) => gD g i).length < 20 /\ True) /\ (fewM
 g).r.b.length = (fewM (rng g.length λ (i : Nat) => gD g i)).r.b.length /\ (∀ (i : Nat), i < (fewM g).r.b.length -> gD (fewM g).r.b i = gD (fewM (rng g.length λ (i : Nat) => gD g i)).r.b i) /\ (fewM g).r.l.length = (fewM
 (rng g.length λ (i : Nat) => gD g i)).r.l.length /\ (∀ (i : Nat), i < (fewM g).r.l.length -> (gD (fewM g).r.l i).a0 = (gD (fewM (rng g.length λ (i : Nat) => gD g i)).r.l i).a0 /\ (gD (fewM g).r.l i).a1 = (gD (fewM (rng
 g.length λ (i : Nat) => gD g i)).r.l i).a1 /\ (gD (fewM g).r.l i).b0 = (gD (fewM (rng g.length λ (i : Nat) => gD g i)).r.l i).b0 /\ (gD (fewM g).r.l i).b1 = (gD (fewM (rng g.length λ (i : Nat) => gD g i)).r.l i).b1)
 /\ (fewM g).e = (fewM (rng g.length λ (i : Nat) => gD g i)).e) := by kernel_rfl
def C_Knots : Ctr := { C_few with val := λ (g : List Gau) => .tup [.d (eLL (fewM g).k), .int (fewM g).e] }
def V_Knots (g : List Gau) : Prop := fnVC Try.prog (ann 15 [(n_fewest, C_few.spec dGs1)]) F_Knots (bodyOf F_Knots) (C_Knots.xs g) (heapOf []) (C_Knots.val g) [] [] []
theorem vc_Knots (g : List Gau) : (V_Knots g) = (((rng g.length λ (i : Nat) => gD g i).length = g.length /\ (∀ (i : Nat), i < (rng g.length λ (i : Nat) => gD g i).length -> (gD (rng g.length λ (i : Nat) => gD g i)
 i).st = (gD g i).st /\ (gD (rng g.length λ (i : Nat) => gD g i) i).lo = (gD g i).lo /\ (gD (rng g.length λ (i : Nat) => gD g i) i).hi = (gD g i).hi) /\ (rng g.length λ (i : Nat) => gD g i).length < 20 /\ True) /\ (fewM
 g).k.length = (fewM (rng g.length λ (i : Nat) => gD g i)).k.length /\ (∀ (i : Nat), i < (fewM g).k.length -> (gD (fewM g).k i).length = (gD (fewM (rng g.length λ (i : Nat) => gD g i)).k i).length /\ ∀ (i_1 : Nat), i_1 <
 (gD (fewM g).k i).length -> gD (gD (fewM g).k i) i_1 = gD (gD (fewM (rng g.length λ (i : Nat) => gD g i)).k i) i_1) /\ (fewM g).e = (fewM (rng g.length λ (i : Nat) => gD g i)).e) := by kernel_rfl
theorem ok_Rate : SpecOk Try.prog n_Rate (C_Rate.spec dGs1) := okC C_Rate (λ _ => ann 15 [(n_fewest, C_few.spec dGs1)]) [] [] fn_Rate (λ _ => by kernel_rfl) (λ _ => gok_cons ok_few gok_nil) (λ (g : List Gau) h => by
 show V_Rate g; rw [vc_Rate]; simp only [condP, eq_self, implies_true, and_self, true_and, and_true, true_implies, forall_const, decide_eq_true_eq, decide_eq_false_iff_not, Int.toNat_natCast, dSpan_eSpan, dInt_eInt, dGau_e, dPt_e, dLn_e, dRt_e, Nat.zero_add, Int.zero_sub, Nat.le_eq, Nat.succ_eq_add_one, Nat.add_one_le_iff, Bool.not_eq_true', Bool.not_eq_false', rng_length, dSpan_mk, rng_getD]
 exact (show g.length < 20 /\ True from h).1) (λ _ => noI rfl rfl) _
theorem ok_Knots : SpecOk Try.prog n_Knots (C_Knots.spec dGs1) := okC C_Knots (λ _ => ann 15 [(n_fewest, C_few.spec dGs1)]) [] [] fn_Knots (λ _ => by kernel_rfl) (λ _ => gok_cons ok_few gok_nil) (λ (g : List Gau) h => by
 show V_Knots g; rw [vc_Knots]; simp only [condP, eq_self, implies_true, and_self, true_and, and_true, true_implies, forall_const, decide_eq_true_eq, decide_eq_false_iff_not, Int.toNat_natCast, dSpan_eSpan, dInt_eInt, dGau_e, dPt_e, dLn_e, dRt_e, Nat.zero_add, Int.zero_sub, Nat.le_eq, Nat.succ_eq_add_one, Nat.add_one_le_iff, Bool.not_eq_true', Bool.not_eq_false', rng_length, dSpan_mk, rng_getD]
 exact (show g.length < 20 /\ True from h).1) (λ _ => noI rfl rfl) _
end Go.Bal
