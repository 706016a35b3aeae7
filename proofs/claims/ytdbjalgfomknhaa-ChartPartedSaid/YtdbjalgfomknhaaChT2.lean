/- Package chart: what the program reckons, without wrapping (no program in sight). -/
import Derived.Test.YtdbjalgfomknhaaChI
set_option linter.unusedVariables false
set_option linter.unusedSimpArgs false
namespace Go.Bal
open Go Go.Sym Go.Proofs
theorem AOC (a b : Int) : a <= DJ a b /\ b <= DJ a b := by unfold DJ; split <;> omega
theorem BSK (a b : Int) : JK a b <= a /\ JK a b <= b := by unfold JK; split <;> omega
def N6 (B : Int) (s : Span) : Prop := (-B <= s.lo /\ s.lo <= B) /\ -B <= s.hi /\ s.hi <= B
def gpOk (s : Nat -> Span) (n : Nat) : Prop := ∀ g, g < n -> (0 <= (s g).lo /\ (s g).lo <= 200000000) /\ 0 <= (s g).hi /\ (s g).hi <= 200000000
theorem CJE {l : List Span} {s : Nat -> Span} {n : Nat} (hl : ∀ i, i <= n -> N6 1000000000 (gD l i)) (hs : gpOk s n) (hn : n < 40) : ∀ i, i <= n -> fwM l s i = fw (gD l) s i /\ N6 (1000000000 + 200000000 * i) (fw (gD l) s i)
 | 0, _ => ⟨rfl, by have := hl 0 (Nat.zero_le _); show N6 _ (gD l 0); unfold N6 at *; omega⟩
 | g + 1, h => by
  obtain ⟨e, hb⟩ := CJE hl hs hn g (by omega)
  have h1 := hl (g + 1) h
  have h2 := hs g (by omega)
  have e2 : addS (fw (gD l) s g) (s g) = ⟨(fw (gD l) s g).lo + (s g).lo, (fw (gD l) s g).hi + (s g).hi⟩ := by
   unfold addS wr N6 at *
   rw [FH (by omega) (by omega), FH (by omega) (by omega)]
  refine ⟨by show eS _ (addS (fwM l s g) (s g)) = _; rw [e, e2]; rfl, ?_⟩
  show N6 _ (eS _ _)
  unfold eS
  generalize fw (gD l) s g = F at *
  generalize gD l (g + 1) = L at *
  unfold N6 DJ JK at *
  simp only at *
  constructor
  ·split <;> omega
  ·split <;> omega
theorem CLS {f s : Nat -> Span} {n : Nat} (hf : ∀ i, i <= n -> N6 10000000000 (f i)) (hs : gpOk s n) (hn : n < 40) : ∀ j, j <= n -> bkM f s n j = bk f s n j /\ N6 (10000000000 + 200000000 * j) (bk f s n j)
 | 0, _ => ⟨rfl, by have := hf n (Nat.le_refl _); show N6 _ (f n); unfold N6 at *; omega⟩
 | j + 1, h => by
  obtain ⟨e, hb⟩ := CLS hf hs hn j (by omega)
  have h1 := hf (n - (j + 1)) (by omega)
  have h2 := hs (n - (j + 1)) (by omega)
  have e2 : subS (bk f s n j) (s (n - (j + 1))) = ⟨(bk f s n j).lo - (s (n - (j + 1))).hi, (bk f s n j).hi - (s (n - (j + 1))).lo⟩ := by
   unfold subS wr N6 at *
   rw [FH (by omega) (by omega), FH (by omega) (by omega)]
  refine ⟨by show eS _ (subS (bkM f s n j) (s _)) = _; rw [e, e2]; rfl, ?_⟩
  show N6 _ (eS _ _)
  unfold eS
  generalize bk f s n j = F at *
  generalize f (n - (j + 1)) = L at *
  unfold N6 DJ JK at *
  simp only at *
  constructor
  ·split <;> omega
  ·split <;> omega
theorem CEJ {f g s : Nat -> Span} {n : Nat} (h : ∀ i, i <= n -> f i = g i) : ∀ j, j <= n -> bkM f s n j = bkM g s n j
 | 0, _ => h n (Nat.le_refl _)
 | j + 1, hj => by
  show eS _ _ = eS _ _
  rw [CEJ h j (by omega), h _ (by omega)]
theorem BUR {w : Dk} {l : List Span} (h1 : 1 <= l.length) (h40 : l.length <= 40) (hl : ∀ i, i < l.length -> N6 1000000000 (gD l i)) (hs : gpOk (FS w) (l.length - 1)) {i : Nat} (hi : i < l.length) : gD (KR w l) i = nar (gD l) (FS w) (l.length - 1) i := by
 have hf := CJE (l := l) (s := FS w) (n := l.length - 1) (λ i h => hl i (by omega)) hs (by omega)
 unfold KR
 rw [BN _ _ _ hi, CEJ (λ i h => (hf i h).1) _ (by omega)]
 refine (CLS (λ i h => ?_) hs (by omega) _ (by omega)).1
 have := (hf i h).2
 unfold N6 at *; omega
theorem PM {l : List Span} : l.all IW = true ↔ ∀ i, i < l.length -> (gD l i).lo <= (gD l i).hi := by
 rw [List.all_eq_true]
 constructor
 ·intro h i hi; exact of_decide_eq_true (h _ (NB hi))
 ·intro h x hx
  obtain ⟨i, hi, rfl⟩ := PE hx
  exact decide_eq_true (h i hi)
theorem BWH (w : Dk) (l : List Span) : (KR w l).length = l.length := rng_length _ _
theorem CJX {w : Dk} {l : List Span} (h1 : 1 <= l.length) (h40 : l.length <= 40) (hl : ∀ i, i < l.length -> N6 1000000000 (gD l i)) (hs : gpOk (FS w) (l.length - 1)) (hle : ∀ g, g < l.length - 1 -> (FS w g).lo <= (FS w g).hi) : (KR w l).all IW = true ↔ ∃ t, Tr (gD l) (FS w) (l.length - 1) t := by
 rw [<- BXQ hle, PM, BWH]
 constructor
 ·intro h i hi; rw [<- BUR h1 h40 hl hs (by omega)]; exact h i (by omega)
 ·intro h i hi; rw [BUR h1 h40 hl hs hi]; exact h i (by omega)
end Go.Bal
