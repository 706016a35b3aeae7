/- Package chart: Clone of ints, also of none. -/
import Derived.Test.YtdbjalgfomknhaaChO
import Derived.Test.YtdbjalgfomknhaaChI
set_option linter.unusedVariables false
set_option linter.unusedSimpArgs false
namespace Go.Bal
open Go Go.Sym Go.Proofs
def nilN : DVal := .list 0 0 (λ _ => default) false
def CWW : Ann := { ann 8 [] with md := λ id => if id = 3 then some (λ k => if k = 0 then 4 else 0) else none }
def CZN (_x : One) : Prop := BA Try.prog CWW Tm (AL Tm) [.d nilN] (AG []) (.d (BB ([] : List Int))) [] [] []
theorem DBC (_x : One) : (CZN _x) = ((0 = 0 /\ 0 = 0) /\ ((True /\ (0 < 0 -> 1 = 1)) /\ (True /\ (0 < 0 -> 0 = 1)) /\ (false = true -> 0 < 0) /\ 0 <= 9223372036854775807 /\ 0 <= 140737488355328) /\ 0 = 0 /\ ∀ (i : Nat), i < 0
 -> Value.int IntKind.i64 (gD [] i) = Value.bool (bif decide (i < 0) then default else default)) := by kernel_rfl
def C_clI : Ctr := { α := List Int, xs := λ l => [.d (BB l)], val := λ l => .d (BB l), keep := λ _ => [], pre := λ l => [l.length < 1000000] }
theorem DRG : AN Try.prog Y9 (C_clI.spec dIs1) := okT C_clI (λ (l : List Int) (h : l.length < 1000000) => by
 rcases Nat.eq_zero_or_pos l.length with h0 | h0
 ·obtain rfl : l = [] := List.length_eq_zero_iff.1 h0
  have q : FnT Try.prog Y9 [.d nilN] (AG []) (.d (BB ([] : List Int))) [] := by
   refine PJ (A := CWW) (ren := []) (fz := []) CEJ (by kernel_rfl) AI ?_
   show CZN default; rw [DBC]; simp only [AU, eq_self, implies_true, and_self, true_and, and_true, true_implies, forall_const, decide_eq_true_eq, decide_eq_false_iff_not, Int.toNat_natCast, dSpan_eSpan, dInt_eInt, AY, AW, AX, Nat.zero_add, Int.zero_sub, Nat.le_eq, Nat.succ_eq_add_one, Nat.add_one_le_iff, Bool.not_eq_true', Bool.not_eq_false', rng_length, AK, AJ]
   exact ⟨⟨λ h => absurd h (Nat.lt_irrefl 0), (λ h => by cases h), by decide, by decide⟩, λ i hi => absurd hi (Nat.not_lt_zero _)⟩
  refine q.weak (DPW ?_)
  simp only [nilN, BB, lst, BY]
  refine ⟨.inr trivial, rfl, ?_, λ i hi => absurd hi (Nat.not_lt_zero _)⟩
  intro h; cases h
 ·refine PJ (A := DHY) (ren := []) (fz := []) CEJ (by kernel_rfl) AI ?_
  show DDS l; rw [DLV]; simp only [AU, eq_self, implies_true, and_self, true_and, and_true, true_implies, forall_const, decide_eq_true_eq, decide_eq_false_iff_not, Int.toNat_natCast, dSpan_eSpan, dInt_eInt, AY, AW, AX, Nat.zero_add, Int.zero_sub, Nat.le_eq, Nat.succ_eq_add_one, Nat.add_one_le_iff, Bool.not_eq_true', Bool.not_eq_false', rng_length, AK, AJ]
  exact ⟨h0, ⟨(λ h => by cases h), by omega, by omega⟩, λ i hi => by rw [Nat.sub_zero]⟩) _
end Go.Bal

namespace Go.Bal
open Go Go.Sym Go.Proofs
theorem CWG (a b : Int) : a <= DD a b /\ b <= DD a b := by unfold DD; split <;> omega
theorem DLL (a b : Int) : RN a b <= a /\ RN a b <= b := by unfold RN; split <;> omega
def Dg (B : Int) (s : Span) : Prop := (-B <= s.lo /\ s.lo <= B) /\ -B <= s.hi /\ s.hi <= B
def gpOk (s : Nat -> Span) (n : Nat) : Prop := ∀ g, g < n -> (0 <= (s g).lo /\ (s g).lo <= 200000000) /\ 0 <= (s g).hi /\ (s g).hi <= 200000000
theorem DIM {l : List Span} {s : Nat -> Span} {n : Nat} (hl : ∀ i, i <= n -> Dg 1000000000 (gD l i)) (hs : gpOk s n) (hn : n < 40) : ∀ i, i <= n -> fwM l s i = fw (gD l) s i /\ Dg (1000000000 + 200000000 * i) (fw (gD l) s i)
 | 0, _ => ⟨rfl, by have := hl 0 (Nat.zero_le _); show Dg _ (gD l 0); unfold Dg at *; omega⟩
 | g + 1, h => by
  obtain ⟨e, hb⟩ := DIM hl hs hn g (by omega)
  have h1 := hl (g + 1) h
  have h2 := hs g (by omega)
  have e2 : addS (fw (gD l) s g) (s g) = ⟨(fw (gD l) s g).lo + (s g).lo, (fw (gD l) s g).hi + (s g).hi⟩ := by
   unfold addS wr Dg at *
   rw [EN (by omega) (by omega), EN (by omega) (by omega)]
  refine ⟨by show Ql _ (addS (fwM l s g) (s g)) = _; rw [e, e2]; rfl, ?_⟩
  show Dg _ (Ql _ _)
  unfold Ql
  generalize fw (gD l) s g = F at *
  generalize gD l (g + 1) = L at *
  unfold Dg DD RN at *
  simp only at *
  constructor
  ·split <;> omega
  ·split <;> omega
theorem DGM {f s : Nat -> Span} {n : Nat} (hf : ∀ i, i <= n -> Dg 10000000000 (f i)) (hs : gpOk s n) (hn : n < 40) : ∀ j, j <= n -> bkM f s n j = bk f s n j /\ Dg (10000000000 + 200000000 * j) (bk f s n j)
 | 0, _ => ⟨rfl, by have := hf n (Nat.le_refl _); show Dg _ (f n); unfold Dg at *; omega⟩
 | j + 1, h => by
  obtain ⟨e, hb⟩ := DGM hf hs hn j (by omega)
  have h1 := hf (n - (j + 1)) (by omega)
  have h2 := hs (n - (j + 1)) (by omega)
  have e2 : subS (bk f s n j) (s (n - (j + 1))) = ⟨(bk f s n j).lo - (s (n - (j + 1))).hi, (bk f s n j).hi - (s (n - (j + 1))).lo⟩ := by
   unfold subS wr Dg at *
   rw [EN (by omega) (by omega), EN (by omega) (by omega)]
  refine ⟨by show Ql _ (subS (bkM f s n j) (s _)) = _; rw [e, e2]; rfl, ?_⟩
  show Dg _ (Ql _ _)
  unfold Ql
  generalize bk f s n j = F at *
  generalize f (n - (j + 1)) = L at *
  unfold Dg DD RN at *
  simp only at *
  constructor
  ·split <;> omega
  ·split <;> omega
theorem CZA {f g s : Nat -> Span} {n : Nat} (h : ∀ i, i <= n -> f i = g i) : ∀ j, j <= n -> bkM f s n j = bkM g s n j
 | 0, _ => h n (Nat.le_refl _)
 | j + 1, hj => by
  show Ql _ _ = Ql _ _
  rw [CZA h j (by omega), h _ (by omega)]
theorem BLG {w : Dk} {l : List Span} (h1 : 1 <= l.length) (h40 : l.length <= 40) (hl : ∀ i, i < l.length -> Dg 1000000000 (gD l i)) (hs : gpOk (BM w) (l.length - 1)) {i : Nat} (hi : i < l.length) : gD (CR w l) i = nar (gD l) (BM w) (l.length - 1) i := by
 have hf := DIM (l := l) (s := BM w) (n := l.length - 1) (λ i h => hl i (by omega)) hs (by omega)
 unfold CR
 rw [BD _ _ _ hi, CZA (λ i h => (hf i h).1) _ (by omega)]
 refine (DGM (λ i h => ?_) hs (by omega) _ (by omega)).1
 have := (hf i h).2
 unfold Dg at *; omega
theorem ACG {l : List Span} : l.all DZ = true ↔ ∀ i, i < l.length -> (gD l i).lo <= (gD l i).hi := by
 rw [List.all_eq_true]
 constructor
 ·intro h i hi; exact of_decide_eq_true (h _ (RK hi))
 ·intro h x hx
  obtain ⟨i, hi, rfl⟩ := Oe hx
  exact decide_eq_true (h i hi)
theorem PW (w : Dk) (l : List Span) : (CR w l).length = l.length := rng_length _ _
theorem DER {w : Dk} {l : List Span} (h1 : 1 <= l.length) (h40 : l.length <= 40) (hl : ∀ i, i < l.length -> Dg 1000000000 (gD l i)) (hs : gpOk (BM w) (l.length - 1)) (hle : ∀ g, g < l.length - 1 -> (BM w g).lo <= (BM w g).hi) : (CR w l).all DZ = true ↔ ∃ t, Tr (gD l) (BM w) (l.length - 1) t := by
 rw [<- CQC hle, ACG, PW]
 constructor
 ·intro h i hi; rw [<- BLG h1 h40 hl hs (by omega)]; exact h i (by omega)
 ·intro h i hi; rw [BLG h1 h40 hl hs hi]; exact h i (by omega)
end Go.Bal
