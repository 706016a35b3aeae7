/- Package chart: copies as data, and whether spans contain spans. -/
import Derived.Test.YtdbjalgfomknhaaChV
set_option linter.unusedVariables false
set_option linter.unusedSimpArgs false
namespace Go.Bal
open Go Go.Sym Go.Proofs
def CTE : List AVal -> Heap -> Option (List Mk × List (Nat × Nat) × List Nat)
 | [y], H => match dMks y H with
  | some (l, f) => some (l, [], f)
  | none => none
 | _, _ => none
def CSG : List AVal -> Heap -> Option (List Nt × List (Nat × Nat) × List Nat)
 | [y], H => match dNts y H with
  | some (l, f) => some (l, [], f)
  | none => none
 | _, _ => none
def C_cpM : Ctr := { α := List Mk, xs := λ l => [.d (eMks l)], L := λ _ => [], val := λ l => .d (eMks l), keep := λ _ => [], pre := λ l => [l.length < 1073741824] }
def CUD (l : List Mk) : Prop := BB Try.prog (ann 7 []) BPP (AL BPP) (C_cpM.xs l) (AG []) (C_cpM.val l) [] [] []
theorem CVK (l : List Mk) : (CUD l) = (((True /\ (0 < 0 -> 0 = 2)) /\ (True /\ (0 < l.length -> 2 = 2)) /\ (false = true -> 0 < l.length) /\ 0 + l.length <= 9223372036854775807 /\ (0 + l.length) * 16 <= 140737488355328) /\
 l.length = 0 + l.length /\ ∀ (i : Nat), i < l.length -> (gD l i).pl = (gD l (i - 0)).pl /\ (gD l i).ht = (gD l (i - 0)).ht) := by kernel_rfl
def C_cpN : Ctr := { α := List Nt, xs := λ l => [.d (eNts l)], L := λ _ => [], val := λ l => .d (eNts l), keep := λ _ => [], pre := λ l => [l.length < 1073741824] }
def CTW (l : List Nt) : Prop := BB Try.prog (ann 7 []) BQF (AL BQF) (C_cpN.xs l) (AG []) (C_cpN.val l) [] [] []
theorem CWO (l : List Nt) : (CTW l) = (((True /\ (0 < 0 -> 0 = 5)) /\ (True /\ (0 < l.length -> 5 = 5)) /\ (false = true -> 0 < l.length) /\ 0 + l.length <= 9223372036854775807 /\ (0 + l.length) * 40 <= 140737488355328) /\
 l.length = 0 + l.length /\ ∀ (i : Nat), i < l.length -> (gD l i).mi = (gD l (i - 0)).mi /\ (gD l i).t.lo = (gD l (i - 0)).t.lo /\ (gD l i).t.hi = (gD l (i - 0)).t.hi /\ (gD l i).s.lo = (gD l (i - 0)).s.lo /\ (gD l i).s.hi =
 (gD l (i - 0)).s.hi) := by kernel_rfl
def C_cpC : Ctr := { α := Cht, xs := λ c => [.d (YE c)], L := λ _ => [], val := λ c => .d (YE c), keep := λ _ => [], pre := λ c => [c.ms.length < 1073741824 /\ c.ns.length < 1073741824] }
def CTK : Ann := ann 12 [(BVC, C_cpM.spec CTE), (BML, C_cpN.spec CSG)]
def CSU (c : Cht) : Prop := BB Try.prog CTK BZM (AL BZM) (C_cpC.xs c) (AG []) (C_cpC.val c) [] [] []
theorem CVY (c : Cht) : (CSU c) = (((AE c.ms.length λ (i : Nat) => gD c.ms i).length = c.ms.length /\ (∀ (i : Nat), i < (AE c.ms.length λ (i : Nat) => gD c.ms i).length -> (gD (AE c.ms.length λ (i : Nat) =>
 gD c.ms i) i).pl = (gD c.ms i).pl /\ (gD (AE c.ms.length λ (i : Nat) => gD c.ms i) i).ht = (gD c.ms i).ht) /\ (AE c.ms.length λ (i : Nat) => gD c.ms i).length < 1073741824 /\ (AE c.ns.length λ (i : Nat) => gD c.ns
 i).length = c.ns.length /\ (∀ (i : Nat), i < (AE c.ns.length λ (i : Nat) => gD c.ns i).length -> (gD (AE c.ns.length λ (i : Nat) => gD c.ns i) i).mi = (gD c.ns i).mi /\ (gD (AE c.ns.length λ (i : Nat) => gD c.ns i)
 i).t.lo = (gD c.ns i).t.lo /\ (gD (AE c.ns.length λ (i : Nat) => gD c.ns i) i).t.hi = (gD c.ns i).t.hi /\ (gD (AE c.ns.length λ (i : Nat) => gD c.ns i) i).s.lo = (gD c.ns i).s.lo /\ (gD (AE c.ns.length λ (i : Nat)
 => gD c.ns i) i).s.hi = (gD c.ns i).s.hi) /\ (AE c.ns.length λ (i : Nat) => gD c.ns i).length.succ.le 1073741824) /\ c.p.lo = c.p.lo /\ c.p.hi = c.p.hi /\ c.base = c.base /\ c.scale = c.scale /\ c.off = c.off /\ c.ms.length
 = (AE c.ms.length λ (i : Nat) => gD c.ms i).length /\ (∀ (i : Nat), i < c.ms.length -> (gD c.ms i).pl = (gD (AE c.ms.length λ (i : Nat) => gD c.ms i) i).pl /\ (gD c.ms i).ht = (gD (AE c.ms.length λ (i : Nat) => gD
 c.ms i) i).ht) /\ c.ns.length = (AE c.ns.length λ (i : Nat) => gD c.ns i).length /\ ∀ (i : Nat), i < c.ns.length -> (gD c.ns i).mi = (gD (AE c.ns.length λ (i : Nat) => gD c.ns i) i).mi /\ (gD c.ns i).t.lo = (gD (AE
 c.ns.length λ (i : Nat) => gD c.ns i) i).t.lo /\ (gD c.ns i).t.hi = (gD (AE c.ns.length λ (i : Nat) => gD c.ns i) i).t.hi /\ (gD c.ns i).s.lo = (gD (AE c.ns.length λ (i : Nat) => gD c.ns i) i).s.lo /\ (gD c.ns
 i).s.hi = (gD (AE c.ns.length λ (i : Nat) => gD c.ns i) i).s.hi) := by kernel_rfl
theorem CXS : AM Try.prog BVC (C_cpM.spec CTE) := LM C_cpM (λ _ => ann 7 []) [] [] CNW (λ _ => by kernel_rfl) (λ _ => AJ) (λ (l : List Mk) h => by
 show CUD l; rw [CVK]; simp only [CC, eq_self, implies_true, forall_const]
 have h : l.length < 1073741824 := h
 exact ⟨⟨λ h => absurd h (Nat.lt_irrefl 0), (λ h => by cases h), by omega, by omega⟩, λ i hi => by rw [Nat.sub_zero]; exact ⟨rfl, rfl⟩⟩) (λ _ => OA rfl rfl) _
theorem CVC : AM Try.prog BML (C_cpN.spec CSG) := LM C_cpN (λ _ => ann 7 []) [] [] CJX (λ _ => by kernel_rfl) (λ _ => AJ) (λ (l : List Nt) h => by
 show CTW l; rw [CWO]; simp only [CC, eq_self, implies_true, forall_const]
 have h : l.length < 1073741824 := h
 exact ⟨⟨λ h => absurd h (Nat.lt_irrefl 0), (λ h => by cases h), by omega, by omega⟩, λ i hi => by rw [Nat.sub_zero]; exact ⟨rfl, rfl, rfl, rfl, rfl⟩⟩) (λ _ => OA rfl rfl) _
theorem CWG : AM Try.prog CAZ (C_cpC.spec dC1) := LM C_cpC (λ _ => CTK) [] [] CRQ (λ _ => by kernel_rfl) (λ _ => AC CXS (AC CVC AJ)) (λ (c : Cht) h => by
 show CSU c; rw [CVY]; simp only [CC, eq_self, implies_true, forall_const]
 have h : c.ms.length < 1073741824 /\ c.ns.length < 1073741824 := h
 exact h) (λ _ => OA rfl rfl) _
end Go.Bal
