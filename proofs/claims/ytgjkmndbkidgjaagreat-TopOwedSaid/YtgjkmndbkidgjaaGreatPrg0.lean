/- The program. -/
import Derived.Test.YtgjkmndbkidgjaaGreatCom0
import Derived.Test.YtgjkmndbkidgjaaGreatProg
set_option linter.unusedVariables false
set_option linter.unusedSimpArgs false
namespace Go.Proofs.Try
open Go
noncomputable abbrev prog : Program := Go.Proofs.Tryz.prog
end Go.Proofs.Try
namespace Go.Bal
open Go Go.Sym Go.Proofs
theorem AHY : Try.prog.follows .mixedOrders = true := by kernel_rfl
theorem FK {A : Ann} (h : A.iterIn = λ _ _ => none) (h2 : A.iter = λ _ => none) : bD Try.prog A := λ gs g x e => by
 rw [Ann.iterAt, h] at e; simp only [h2] at e; cases e
theorem JK {A : Ann} {g : FuncId} {fn : Func} {xs : List AVal} {L : List (Nat × AObj)} {val : AVal} {keep : List (Nat × HCell)} {ren : List (Nat × Nat)} {fz : List Nat} (hf : Try.prog.funcs[g]? = some fn) (hok : okFn A fn xs L keep = true)
  (hΓ : wE Try.prog A.Γ) (h : BB Try.prog A fn (AS fn) xs (AK L) val keep ren fz) (hI : bD Try.prog A := by exact FK rfl rfl) : FnT Try.prog g xs (AK L) val keep := by
 simp only [okFn, Bool.and_eq_true, Bool.not_eq_true', beq_iff_eq, DK, Nat.ble_eq, Option.isSome_iff_exists] at hok
 obtain ⟨⟨⟨⟨⟨h1, code, h2⟩, h3⟩, h4⟩, h5⟩, h6⟩ := hok
 exact FnT.of_vc hΓ hI AHY hf h1 h2 ⟨h3, h4⟩ h5 h6 (by unfold AS at h; rw [h2] at h; exact h)
theorem AQR {A : Ann} (n0 : FuncId) (x : IterAnn) (h : A.iterIn = λ _ _ => none) (h2 : A.iter = λ g => if g = n0 then some x else none) (hΓ : wE Try.prog x.ann.Γ) (hf : Try.prog.funcs[n0]? = some x.fn) (hname : (x.fn.name == "runtime.NumGoroutine") = false) (hb : x.fn.body = some x.code) : bD Try.prog A := λ gs g y e => by
 rw [Ann.iterAt, h] at e
 simp only [h2] at e
 split at e
 ·rename_i hg
  cases e; subst hg
  exact ⟨hΓ, xY hf hname hb, hf, hb⟩
 ·cases e
theorem EX (C : Ctr) (A : C.α -> Ann) (ren : List (Nat × Nat)) (fz : List Nat) {g : FuncId} {fn : Func} (hf : Try.prog.funcs[g]? = some fn) (hok : ∀ a, okFn (A a) fn (C.xs a) (C.L a) (C.keep a) = true) (hΓ : ∀ a, wE Try.prog (A a).Γ)
  (h : ∀ a, BG (C.pre a) -> BB Try.prog (A a) fn (AS fn) (C.xs a) (AK (C.L a)) (C.val a) (C.keep a) ren fz) (hI : ∀ a, bD Try.prog (A a)) (dec : List AVal -> Heap -> Option (C.α × List (Nat × Nat) × List Nat)) : AR Try.prog g (C.spec dec) :=
 Ctr.spec_ok (λ a ha => JK hf (hok a) (hΓ a) (h a ha) (hI a)) dec
theorem okT (C : Ctr) {g : FuncId} (h : ∀ a, BG (C.pre a) -> FnT Try.prog g (C.xs a) (AK (C.L a)) (C.val a) (C.keep a)) (dec : List AVal -> Heap -> Option (C.α × List (Nat × Nat) × List Nat)) : AR Try.prog g (C.spec dec) := Ctr.spec_ok h dec
end Go.Bal
