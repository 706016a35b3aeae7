/- Package rating: no rating has fewer parts (no program in sight). -/
import Derived.Test.YtoihhodbkimedaaRT5
set_option linter.unusedVariables false
set_option linter.unusedSimpArgs false
namespace Go.Bal
open Go Go.Sym Go.Proofs
def spanG (g : List Gau) (b : List Int) (i : Nat) : List Gau := g.filter λ x => (decide (i = 0) || decide (gD b (i - 1) <= x.st)) && decide (x.st <= gD b i)
structure Few (g : List Gau) (b : List Int) (l : List Ln) (k : List (List Int)) : Prop where
 lenl : l.length = b.length + 1
 lenk : k.length = b.length
 asc : asc b
 brk : ∀ x ∈ b, 1 <= x /\ x <= 2000
 few : b.length <= 24
 pass : ∀ i, i <= b.length -> okL (gD l i) /\ (rlL (gD l i)).passes (partS g b i)
 bad : ∀ i, i < b.length -> ¬Can (spanG g b i)
 rise : ∀ x ∈ l, okL x
 parts : ∃ P : List Nat, PartsO g P b l.dropLast k
 one : ∀ x ∈ g, Can (g.filter λ y => y.st == x.st)
theorem Few.thru {g : List Gau} {b : List Int} {l : List Ln} {k : List (List Int)} (h : Few g b l k) (hc : checkG g = 0) : Thru g b :=
 ⟨(check_ok hc).1, (check_ok hc).2, h.asc, h.brk, h.few, λ i hi => ⟨_, (h.pass i hi).1, (h.pass i hi).2⟩⟩
end Go.Bal
