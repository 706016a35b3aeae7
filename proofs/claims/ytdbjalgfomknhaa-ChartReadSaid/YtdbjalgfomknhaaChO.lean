/- Package chart: times as a row of one's own. -/
import Derived.Test.YtdbjalgfomknhaaChM
import Derived.Test.YtdbjalgfomknhaaChT4
import Derived.Test.YtdbjalgfomknhaaChT6
import Derived.Test.YtdbjalgfomknhaaChT7
set_option linter.unusedVariables false
set_option linter.unusedSimpArgs false


namespace Go.Bal
open Go Go.Sym Go.Proofs
theorem BGG : ∀ {z : List Int} {a b : Int}, z.Pairwise (· < ·) -> (∀ g ∈ z, a <= g /\ g < b) -> (z.length : Int) <= b - a ∨ z = []
 | [], _, _, _, _ => .inr rfl
 | g :: r, a, b, hp, hb => by
  rw [List.pairwise_cons] at hp
  have h0 := hb g (List.mem_cons_self ..)
  rcases BGG (a := g + 1) (b := b) hp.2 (λ x hx => by have := hp.1 x hx; have := hb x (List.mem_cons_of_mem _ hx); omega) with h | h
  ·left; rw [List.length_cons]; omega
  ·subst h; left; show ((1 : Nat) : Int) <= _; omega
end Go.Bal
