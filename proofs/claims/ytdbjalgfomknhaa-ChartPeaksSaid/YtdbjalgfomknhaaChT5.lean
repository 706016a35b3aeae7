/- Package chart: what can be at a time, as truths (no program in sight). -/
import Derived.Test.YtdbjalgfomknhaaChT4
set_option linter.unusedVariables false
set_option linter.unusedSimpArgs false
namespace Go.Bal
open Go Go.Sym Go.Proofs
theorem parL_len2 (l : List Span) (k a b : Int) : (parL l k a b).length = l.length := rng_length _ _
theorem tm_in {a : CZ} (h : ChOk a.c) (hr : readE a = 0) {i : Nat} (hi : i < a.c.ms.length) {x : Int} : (gD (tmL a) i).has x ↔ ∃ t, TrC a.c (begD a).sp t /\ t i = x :=
 times_at (w := begD a) h (readE_0 hr).2.2 hi
theorem tm_le {a : CZ} (hr : readE a = 0) {i : Nat} (hi : i < a.c.ms.length) : (gD (tmL a) i).lo <= (gD (tmL a) i).hi := times_le (w := begD a) (readE_0 hr).2.2 hi
theorem TrC.note {c : Cht} {sp : Nat -> Bool} {t : Nat -> Int} (h : TrC c sp t) {i : Nat} (hi : i < c.ms.length) : (notM c i).has (t i) := h.at_ i (by omega)
theorem tm_bd {a : CZ} (h : ChOk a.c) (hr : readE a = 0) {i : Nat} (hi : i < a.c.ms.length) : bdS 100000000 (gD (tmL a) i) := by
 have hle := tm_le hr hi
 obtain ⟨t1, a1, b1⟩ := (tm_in h hr hi).1 ⟨Int.le_refl _, hle⟩
 obtain ⟨t2, a2, b2⟩ := (tm_in h hr hi).1 ⟨hle, Int.le_refl _⟩
 have c1 := a1.note hi
 have c2 := a2.note hi
 have d := (notM_bd h i).1
 rw [b1] at c1; rw [b2] at c2
 unfold Span.has bdS at *; omega
end Go.Bal
