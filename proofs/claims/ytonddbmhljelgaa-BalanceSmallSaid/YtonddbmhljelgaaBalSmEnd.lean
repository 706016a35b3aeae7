/- BalanceSmall returns true. -/
import Derived.Test.YtonddbmhljelgaaBalSm7
import Derived.Test.YtonddbmhljelgaaBalT20
set_option linter.unusedVariables false
set_option linter.unusedSimpArgs false
namespace Go.Proofs.Ytonddbmhljelgaa
open Go Go.Sym Go.Bal Go.Proofs
open Go.ChangeShapes Go.WideShapes Go.ChangeAt Go.RowKit
theorem own : ownKnob Try.prog.godebug = none := by kernel_rfl
theorem laidOut : laidOutB Try.prog = true := by kernel_rfl
set_option maxRecDepth 100000 in
theorem lifted12 (os : Os) (started : os.Started) (H : Type) (enc : TypeId × Value -> H) :
  ReturnsInHanded {} Go.Proofs.Try.checked os 12 .any (Rows.balanceSmallSpec.pre6 enc Try.prog Try.f12 Rows.balanceSmallRow.domain false) (Rows.balanceSmallSpec.post enc Try.prog Try.f12 false true false false) := by
 refine returnsInHanded_of_change (C := Go.Proofs.Try.checked) own started (by kernel_rfl) Try.func12
  (ChangeSpec.witness6 (enc := enc) (C := Go.Proofs.Try.checked) false ⟨#[], #[], []⟩ 8 (by kernel_rfl) (by kernel_rfl) (by kernel_rfl) (by kernel_rfl)) ?_
 intro W base args ds gs before hval0 hW hcnd _
 have hW' := hW
 obtain ⟨p, q, hA0, hV, rfl, hfz, hnd⟩ := hW
 have hA : DataW.TrodAll enc Try.prog W 0 (λ _ => true) true Try.f12.params.toList args.toList ds p := hA0
 rw [Try.params12] at hA
 obtain ⟨hargs, rfl, rfl⟩ := trodAll_nil hA
 obtain rfl : args = #[] := by cases args; simp_all
 obtain ⟨rfl, rfl⟩ := trodVars_none hV
 clear hA0 hval0
 refine (BDQ c12 (vs := #[]) rfl (λ j a y ha hy => by simp at ha)).mono λ e W' ⟨he, bel⟩ => ?_
 subst he
 exact ⟨_, rfl, _, _, _, [], _, [], hW', trodAll_mk1 (shut_bool Try.underlying4 _), trodAll_mk0, rfl, bel.frame _, λ h => by cases h⟩
theorem over12 : Rows.balanceSmallRow.holds Try.pinned (OpenSpec.ofChange Rows.balanceSmallSpec) :=
 OpenClaim.holds_of_wide 12 Try.f12 rfl rfl rfl rfl rfl rfl rfl ⟨rfl, rfl, rfl, rfl, rfl⟩ rfl rfl rfl rfl rfl (by kernel_rfl) Try.func12 (by kernel_rfl)
  (of_decide_eq_true (by kernel_rfl)) (by unfold Func.isWrapper; first | (rw [if_pos (by decide +kernel)]; kernel_rfl) | (rw [if_neg (by decide +kernel)]; exact ⟨rfl, rfl⟩))
  (λ os started H enc _ => lifted12 os started H enc)
theorem balanceSmall : Rows.BalanceSmallSaid := over12
#print axioms balanceSmall
end Go.Proofs.Ytonddbmhljelgaa
