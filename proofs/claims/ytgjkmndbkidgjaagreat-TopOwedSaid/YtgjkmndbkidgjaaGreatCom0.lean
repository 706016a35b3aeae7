/- Data, and how they read. -/
import Derived.Test.YtgjkmndbkidgjaaGreatSym13
import Derived.KernelRfl
set_option linter.unusedVariables false
set_option linter.unusedSimpArgs false
namespace Go.Bal
open Go Go.Sym
def gD {α : Type} [Inhabited α] (l : List α) (i : Nat) : α := l.getD i default
def AJ {α : Type} (n : Nat) (f : Nat -> α) : List α := (List.range n).map f
@[simp] theorem rng_length {α : Type} (n : Nat) (f : Nat -> α) : (AJ n f).length = n := by simp [AJ]
theorem FE {α : Type} [Inhabited α] (n : Nat) (f : Nat -> α) (i : Nat) (h : i < n) : gD (AJ n f) i = f i := by
 simp [gD, AJ, List.getD_eq_getElem?_getD, h]
theorem AP {α : Type} [Inhabited α] (l : List α) : AJ l.length (λ i => gD l i) = l := by
 apply List.ext_getElem
 ·simp
 ·intro i h1 h2
  simp [gD, AJ, List.getD_eq_getElem?_getD, h2]
theorem AKP {α : Type} [Inhabited α] (l m : List α) (i : Nat) : gD (l ++ m) i = if i < l.length then gD l i else gD m (i - l.length) := by
 simp only [gD, List.getD_eq_getElem?_getD]
 split
 ·rename_i h; rw [List.getElem?_append_left h]
 ·rename_i h; rw [List.getElem?_append_right (by omega)]
structure Span where
 lo : Int
 hi : Int
 deriving Inhabited, DecidableEq
def BM (n : Int) : DVal := .v (.int .i64 n)
def xG (b : Bool) : DVal := .v (.bool b)
def Ff (s : Span) : DVal := .agg [BM s.lo, BM s.hi]
def lst (k n : Nat) (g : Nat -> DVal) : DVal := .list k n g false
def QF : DVal := .list 0 0 (λ _ => default) true
def CR : DVal -> Int
 | .v (.int _ n) => n
 | _ => 0
def ABC : DVal -> Bool
 | .v (.bool b) => b
 | _ => false
def AAO : DVal -> Span
 | .agg [a, b] => ⟨CR a, CR b⟩
 | _ => default
def AS (f : Func) : Code := f.body.getD .skip
@[simp] theorem dInt_eInt (n : Int) : CR (BM n) = n := rfl
@[simp] theorem dSpan_eSpan (s : Span) : AAO (Ff s) = s := rfl
theorem AT (a b : Int) : AAO (.agg [BM a, BM b]) = Span.mk a b := rfl
def ann (n : Nat) (l : List (FuncId × Sym.Spec)) : Ann := { base := λ id => 1000 * (id + 1), Γ := Sym.look l, E := [], n := n }
def okFn (A : Ann) (fn : Func) (xs : List AVal) (L : List (Nat × AObj)) (keep : List (Nat × HCell)) : Bool :=
 !(fn.name == "runtime.NumGoroutine") && fn.body.isSome && Nat.beq A.n fn.ntmps && Nat.ble xs.length fn.ntmps && A.E == L.map (·.1) && nodup (keep.map (·.1))
theorem JA {n : Int} (h0 : -9223372036854775808 <= n) (h1 : n <= 9223372036854775807) : IntKind.i64.wrap n = n := by
 simp only [IntKind.wrap, IntKind.bits, IntKind.signed]
 rcases Int.lt_or_le n 0 with h | h
 ·have : n % (2 ^ 64 : Int) = n + 2 ^ 64 := by
   rw [<- Int.add_emod_right]; exact Int.emod_eq_of_lt (by omega) (by omega)
  simp only [this]
  rw [if_pos (by simp; omega)]; omega
 ·have : n % (2 ^ 64 : Int) = n := Int.emod_eq_of_lt h (by omega)
  simp only [this]
  rw [if_neg (by simp; omega)]
theorem CE {a : Nat} (h : a < 9223372036854775807) : IntKind.i64.wrap ((a : Int) + 1) = ((a + 1 : Nat) : Int) := by
 rw [JA (by omega) (by omega)]; rfl
def BN (p : Nat -> Bool) : Nat -> Nat -> Int
 | 0, _ => -1
 | n + 1, k => if p k then k else BN p n (k + 1)
theorem DJ {p : Nat -> Bool} {n k : Nat} (hk : k < n) (h : p k = true) : BN p (n - k) k = k := by
 obtain ⟨m, rfl⟩ : ∃ m, n = k + 1 + m := ⟨n - k - 1, by omega⟩
 rw [show k + 1 + m - k = m + 1 by omega]; simp [BN, h]
theorem FZ {p : Nat -> Bool} {n k : Nat} (hk : k < n) (h : p k = false) : BN p (n - k) k = BN p (n - (k + 1)) (k + 1) := by
 obtain ⟨m, rfl⟩ : ∃ m, n = k + 1 + m := ⟨n - k - 1, by omega⟩
 rw [show k + 1 + m - k = m + 1 by omega, show k + 1 + m - (k + 1) = m by omega]; simp [BN, h]
theorem EK {p : Nat -> Bool} {n k : Nat} (hk : n <= k) : BN p (n - k) k = -1 := by
 rw [show n - k = 0 by omega]; rfl
theorem Cs {α : Type} [Inhabited α] (l : List α) (x : α) {i : Nat} (hi : i < l.length + 1) : gD (l ++ [x]) i = bif decide (i < l.length) then gD l i else x := by
 rw [AKP]
 by_cases h : i < l.length
 ·simp [h]
 ·have : i - l.length = 0 := by omega
  simp only [h, if_false, decide_false, cond_false, this]; rfl
theorem ADP {α : Type} [Inhabited α] {l : List α} {k : Nat} (h : k < l.length) : gD l k ∈ l := by
 unfold gD; rw [List.getD_eq_getElem?_getD, List.getElem?_eq_getElem h]; exact List.getElem_mem h
theorem OW {α : Type} [Inhabited α] {l : List α} {x : α} (h : x ∈ l) : ∃ i, i < l.length /\ gD l i = x := by
 obtain ⟨i, hi, rfl⟩ := List.getElem_of_mem h
 exact ⟨i, hi, by simp [gD, List.getD_eq_getElem?_getD, hi]⟩
def AF (l : List Int) : DVal := lst 1 l.length λ i => BM (gD l i)
def HK : AVal -> Heap -> Option (Nat × (Nat -> DVal) × List Nat)
 | .d (.list _ n g _), _ => some (n, g, [])
 | .own id _ _ n, H => match H id with
  | .live (.row _ _ g) => some (n, g, [id])
  | _ => none
 | _, _ => none
def YY (a : AVal) (H : Heap) : Option (List Int × List Nat) := match HK a H with
 | some (n, g, f) => some (AJ n λ i => CR (g i), f)
 | none => none
structure One where
 u : Nat := 0
 deriving Inhabited
end Go.Bal
namespace Go.Bal.DL
open Go.Sym Go
theorem a1 (n : Int) : CR (BM n) = n := rfl
theorem a2 (s : Span) : AAO (Ff s) = s := rfl
theorem b2 (a b : Int) : AAO (.agg [BM a, BM b]) = Span.mk a b := rfl
theorem d1 (s : Span) : Span.mk s.lo s.hi = s := rfl
theorem e1 (n : Nat) : Int.toNat (n : Int) = n := rfl
theorem e2 (n : Nat) : (Int.ofNat n).toNat = n := rfl
end Go.Bal.DL
