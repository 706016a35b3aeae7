/- Package chart: what the program reckons, without wrapping (no program in sight). -/
import Derived.Test.YtdbjalgfomknhaaChI
set_option linter.unusedVariables false
set_option linter.unusedSimpArgs false
namespace Go.Bal
open Go Go.Sym Go.Proofs
theorem maxI_in {a b x y : Int} (h1 : x <= a /\ a <= y) (h2 : x <= b /\ b <= y) : x <= maxI a b /\ maxI a b <= y := by unfold maxI; split <;> omega
theorem maxI_ge (a b : Int) : a <= maxI a b /\ b <= maxI a b := by unfold maxI; split <;> omega
theorem minI_le (a b : Int) : minI a b <= a /\ minI a b <= b := by unfold minI; split <;> omega
def bdS (B : Int) (s : Span) : Prop := (-B <= s.lo /\ s.lo <= B) /\ -B <= s.hi /\ s.hi <= B
def gpOk (s : Nat -> Span) (n : Nat) : Prop := ∀ g, g < n -> (0 <= (s g).lo /\ (s g).lo <= 200000000) /\ 0 <= (s g).hi /\ (s g).hi <= 200000000
theorem fwM_eq {l : List Span} {s : Nat -> Span} {n : Nat} (hl : ∀ i, i <= n -> bdS 1000000000 (gD l i)) (hs : gpOk s n) (hn : n < 40) : ∀ i, i <= n -> fwM l s i = fw (gD l) s i /\ bdS (1000000000 + 200000000 * i) (fw (gD l) s i)
 | 0, _ => ⟨rfl, by have := hl 0 (Nat.zero_le _); show bdS _ (gD l 0); unfold bdS at *; omega⟩
 | g + 1, h => by
  obtain ⟨e, hb⟩ := fwM_eq hl hs hn g (by omega)
  have h1 := hl (g + 1) h
  have h2 := hs g (by omega)
  have e2 : addS (fw (gD l) s g) (s g) = ⟨(fw (gD l) s g).lo + (s g).lo, (fw (gD l) s g).hi + (s g).hi⟩ := by
   unfold addS wr bdS at *
   rw [w64 (by omega) (by omega), w64 (by omega) (by omega)]
  refine ⟨by show com _ (addS (fwM l s g) (s g)) = _; rw [e, e2]; rfl, ?_⟩
  show bdS _ (com _ _)
  unfold com
  generalize fw (gD l) s g = F at *
  generalize gD l (g + 1) = L at *
  unfold bdS maxI minI at *
  simp only at *
  constructor
  ·split <;> omega
  ·split <;> omega
theorem bkM_eq {f s : Nat -> Span} {n : Nat} (hf : ∀ i, i <= n -> bdS 10000000000 (f i)) (hs : gpOk s n) (hn : n < 40) : ∀ j, j <= n -> bkM f s n j = bk f s n j /\ bdS (10000000000 + 200000000 * j) (bk f s n j)
 | 0, _ => ⟨rfl, by have := hf n (Nat.le_refl _); show bdS _ (f n); unfold bdS at *; omega⟩
 | j + 1, h => by
  obtain ⟨e, hb⟩ := bkM_eq hf hs hn j (by omega)
  have h1 := hf (n - (j + 1)) (by omega)
  have h2 := hs (n - (j + 1)) (by omega)
  have e2 : subS (bk f s n j) (s (n - (j + 1))) = ⟨(bk f s n j).lo - (s (n - (j + 1))).hi, (bk f s n j).hi - (s (n - (j + 1))).lo⟩ := by
   unfold subS wr bdS at *
   rw [w64 (by omega) (by omega), w64 (by omega) (by omega)]
  refine ⟨by show com _ (subS (bkM f s n j) (s _)) = _; rw [e, e2]; rfl, ?_⟩
  show bdS _ (com _ _)
  unfold com
  generalize bk f s n j = F at *
  generalize f (n - (j + 1)) = L at *
  unfold bdS maxI minI at *
  simp only at *
  constructor
  ·split <;> omega
  ·split <;> omega
theorem bkM_ext {f g s : Nat -> Span} {n : Nat} (h : ∀ i, i <= n -> f i = g i) : ∀ j, j <= n -> bkM f s n j = bkM g s n j
 | 0, _ => h n (Nat.le_refl _)
 | j + 1, hj => by
  show com _ _ = com _ _
  rw [bkM_ext h j (by omega), h _ (by omega)]
theorem narL_eq {w : Dk} {l : List Span} (h1 : 1 <= l.length) (h40 : l.length <= 40) (hl : ∀ i, i < l.length -> bdS 1000000000 (gD l i)) (hs : gpOk (gapM w) (l.length - 1)) {i : Nat} (hi : i < l.length) : gD (narL w l) i = nar (gD l) (gapM w) (l.length - 1) i := by
 have hf := fwM_eq (l := l) (s := gapM w) (n := l.length - 1) (λ i h => hl i (by omega)) hs (by omega)
 unfold narL
 rw [rng_get _ _ _ hi, bkM_ext (λ i h => (hf i h).1) _ (by omega)]
 refine (bkM_eq (λ i h => ?_) hs (by omega) _ (by omega)).1
 have := (hf i h).2
 unfold bdS at *; omega
theorem all_leM {l : List Span} : l.all leM = true ↔ ∀ i, i < l.length -> (gD l i).lo <= (gD l i).hi := by
 rw [List.all_eq_true]
 constructor
 ·intro h i hi; exact of_decide_eq_true (h _ (gD_mem hi))
 ·intro h x hx
  obtain ⟨i, hi, rfl⟩ := mem_gD hx
  exact decide_eq_true (h i hi)
theorem narL_len (w : Dk) (l : List Span) : (narL w l).length = l.length := rng_length _ _
theorem nar_ok {w : Dk} {l : List Span} (h1 : 1 <= l.length) (h40 : l.length <= 40) (hl : ∀ i, i < l.length -> bdS 1000000000 (gD l i)) (hs : gpOk (gapM w) (l.length - 1)) (hle : ∀ g, g < l.length - 1 -> (gapM w g).lo <= (gapM w g).hi) : (narL w l).all leM = true ↔ ∃ t, Tr (gD l) (gapM w) (l.length - 1) t := by
 rw [<- nar_none hle, all_leM, narL_len]
 constructor
 ·intro h i hi; rw [<- narL_eq h1 h40 hl hs (by omega)]; exact h i (by omega)
 ·intro h i hi; rw [narL_eq h1 h40 hl hs hi]; exact h i (by omega)
end Go.Bal
