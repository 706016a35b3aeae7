/- Package chart: copies as data, and whether spans contain spans. -/
import Derived.Test.YtdbjalgfomknhaaChV
set_option linter.unusedVariables false
set_option linter.unusedSimpArgs false
namespace Go.Bal
open Go Go.Sym Go.Proofs
def BVD : List AVal -> Heap -> Option (List Mk × List (Nat × Nat) × List Nat)
 | [y], H => match dMks y H with
  | some (l, f) => some (l, [], f)
  | none => none
 | _, _ => none
def BJJ : List AVal -> Heap -> Option (List Nt × List (Nat × Nat) × List Nat)
 | [y], H => match dNts y H with
  | some (l, f) => some (l, [], f)
  | none => none
 | _, _ => none
def C_cpM : Ctr := { α := List Mk, xs := λ l => [.d (eMks l)], L := λ _ => [], val := λ l => .d (eMks l), keep := λ _ => [], pre := λ l => [l.length < 1073741824] }
def CQM (l : List Mk) : Prop := AW Try.prog (ann 7 []) BNR (AK BNR) (C_cpM.xs l) (AF []) (C_cpM.val l) [] [] []
theorem CTZ (l : List Mk) : (CQM l) = (((True /\ (0 < 0 -> 0 = 2)) /\ (True /\ (0 < l.length -> 2 = 2)) /\ (false = true -> 0 < l.length) /\ 0 + l.length <= 9223372036854775807 /\ (0 + l.length) * 16 <= 140737488355328) /\
 l.length = 0 + l.length /\ ∀ (i : Nat), i < l.length -> (gD l i).pl = (gD l (i - 0)).pl /\ (gD l i).ht = (gD l (i - 0)).ht) := by kernel_rfl
def C_cpNO : Ctr := { α := List Nt, xs := λ l => [.d (yY l)], L := λ _ => [], val := λ l => .own 0 5 0 l.length, keep := λ l => [(0, .live (.row 5 l.length λ i => eNt (gD l i)))], pre := λ l => [0 < l.length /\ l.length < 1073741824] }
def CJO (l : List Nt) : Prop := AW Try.prog { ann 7 [] with mt := λ id => id == 2 } J6 (AK J6) (C_cpNO.xs l) (AF []) (C_cpNO.val l) (C_cpNO.keep l) [(0, 3032)] []
theorem CPB (l : List Nt) : (CJO l) = (((True /\ (0 < 0 -> 0 = 5)) /\ (True /\ (0 < l.length -> 5 = 5)) /\ (true = true -> 0 < l.length) /\ 0 + l.length <= 9223372036854775807 /\ (0 + l.length) * 40 <= 140737488355328) /\ 0 =
 0 /\ l.length = 0 + l.length /\ l.length = 0 + l.length /\ ∀ (i : Nat), i < l.length -> (gD l i).mi = (gD l (i - 0)).mi /\ (gD l i).t.lo = (gD l (i - 0)).t.lo /\ (gD l i).t.hi = (gD l (i - 0)).t.hi /\ (gD l i).s.lo = (gD l (i -
 0)).s.lo /\ (gD l i).s.hi = (gD l (i - 0)).s.hi) := by kernel_rfl
def C_cpO : Ctr := { α := Cht, xs := λ c => [.d (YV c)], L := λ _ => [], val := λ c => .agg [.int c.p.lo, .int c.p.hi, .int c.base, .int c.scale, .int c.off, .d (eMks c.ms), .own 0 5 0 c.ns.length], keep := λ c => [(0, .live (.row 5 c.ns.length λ i => eNt (gD c.ns i)))], pre := λ c => [c.ms.length < 1073741824 /\ 0 < c.ns.length /\ c.ns.length < 1073741824] }
def CQD (c : Cht) : Prop := AW Try.prog (ann 12 [(bT, C_cpM.spec BVD), (UL, C_cpNO.spec BJJ)]) AZE (AK AZE) (C_cpO.xs c) (AF []) (C_cpO.val c) (C_cpO.keep c) [(0, 2080)] []
theorem CUQ (c : Cht) : (CQD c) = (((AE c.ms.length λ (i : Nat) => gD c.ms i).length = c.ms.length /\ (∀ (i : Nat), i < (AE c.ms.length λ (i : Nat) => gD c.ms i).length -> (gD (AE c.ms.length λ (i : Nat) =>
 gD c.ms i) i).pl = (gD c.ms i).pl /\ (gD (AE c.ms.length λ (i : Nat) => gD c.ms i) i).ht = (gD c.ms i).ht) /\ (AE c.ms.length λ (i : Nat) => gD c.ms i).length < 1073741824 /\ (AE c.ns.length λ (i : Nat) => gD c.ns
 i).length = c.ns.length /\ (∀ (i : Nat), i < (AE c.ns.length λ (i : Nat) => gD c.ns i).length -> (gD (AE c.ns.length λ (i : Nat) => gD c.ns i) i).mi = (gD c.ns i).mi /\ (gD (AE c.ns.length λ (i : Nat) => gD c.ns i)
 i).t.lo = (gD c.ns i).t.lo /\ (gD (AE c.ns.length λ (i : Nat) => gD c.ns i) i).t.hi = (gD c.ns i).t.hi /\ (gD (AE c.ns.length λ (i : Nat) => gD c.ns i) i).s.lo = (gD c.ns i).s.lo /\ (gD (AE c.ns.length λ (i : Nat)
 => gD c.ns i) i).s.hi = (gD c.ns i).s.hi) /\ 0 < (AE c.ns.length λ (i : Nat) => gD c.ns i).length /\ (AE c.ns.length λ (i : Nat) => gD c.ns i).length < 1073741824) /\ c.p.lo = c.p.lo /\ c.p.hi = c.p.hi /\ c.base =
 c.base /\ c.scale = c.scale /\ c.off = c.off /\ c.ms.length = (AE c.ms.length λ (i : Nat) => gD c.ms i).length /\ (∀ (i : Nat), i < c.ms.length -> (gD c.ms i).pl = (gD (AE c.ms.length λ (i : Nat) => gD c.ms i) i).pl /\
 (gD c.ms i).ht = (gD (AE c.ms.length λ (i : Nat) => gD c.ms i) i).ht) /\ 0 = 0 /\ c.ns.length = (AE c.ns.length λ (i : Nat) => gD c.ns i).length /\ c.ns.length = (AE c.ns.length λ (i : Nat) => gD c.ns i).length /\ ∀
 (i : Nat), i < c.ns.length -> (gD c.ns i).mi = (gD (AE c.ns.length λ (i : Nat) => gD c.ns i) i).mi /\ (gD c.ns i).t.lo = (gD (AE c.ns.length λ (i : Nat) => gD c.ns i) i).t.lo /\ (gD c.ns i).t.hi = (gD (AE c.ns.length
 λ (i : Nat) => gD c.ns i) i).t.hi /\ (gD c.ns i).s.lo = (gD (AE c.ns.length λ (i : Nat) => gD c.ns i) i).s.lo /\ (gD c.ns i).s.hi = (gD (AE c.ns.length λ (i : Nat) => gD c.ns i) i).s.hi) := by kernel_rfl
def CFW : DVal := .list 0 0 (λ _ => default) false
def CKK (_x : One) : Prop := AW Try.prog (ann 7 []) J6 (AK J6) [.d CFW] (AF []) (.d FG) [] [] []
theorem CMX (_x : One) : (CKK _x) = (((True /\ (0 < 0 -> 0 = 5)) /\ (True /\ (0 < 0 -> 0 = 5)) /\ (false = true -> 0 < 0) /\ 0 <= 9223372036854775807 /\ 0 <= 140737488355328) /\ 0 = 0 /\ 0 = 0) := by kernel_rfl
def C_cpNE : Ctr := { α := List Nt, xs := λ l => [.d (yY l)], L := λ _ => [], val := λ _ => .d FG, keep := λ _ => [], pre := λ l => [l.length = 0] }
def C_cpE : Ctr := { α := Cht, xs := λ c => [.d (YV c)], L := λ _ => [], val := λ c => .agg [.int c.p.lo, .int c.p.hi, .int c.base, .int c.scale, .int c.off, .d (eMks c.ms), .d FG], keep := λ _ => [], pre := λ c => [c.ms.length < 1073741824 /\ c.ns.length = 0] }
def CRJ (c : Cht) : Prop := AW Try.prog (ann 12 [(bT, C_cpM.spec BVD), (UL, C_cpNE.spec BJJ)]) AZE (AK AZE) (C_cpE.xs c) (AF []) (C_cpE.val c) [] [] []
theorem CUP (c : Cht) : (CRJ c) = (((AE c.ms.length λ (i : Nat) => gD c.ms i).length = c.ms.length /\ (∀ (i : Nat), i < (AE c.ms.length λ (i : Nat) => gD c.ms i).length -> (gD (AE c.ms.length λ (i : Nat) =>
 gD c.ms i) i).pl = (gD c.ms i).pl /\ (gD (AE c.ms.length λ (i : Nat) => gD c.ms i) i).ht = (gD c.ms i).ht) /\ (AE c.ms.length λ (i : Nat) => gD c.ms i).length < 1073741824 /\ (AE c.ns.length λ (i : Nat) => gD c.ns
 i).length = c.ns.length /\ (∀ (i : Nat), i < (AE c.ns.length λ (i : Nat) => gD c.ns i).length -> (gD (AE c.ns.length λ (i : Nat) => gD c.ns i) i).mi = (gD c.ns i).mi /\ (gD (AE c.ns.length λ (i : Nat) => gD c.ns i)
 i).t.lo = (gD c.ns i).t.lo /\ (gD (AE c.ns.length λ (i : Nat) => gD c.ns i) i).t.hi = (gD c.ns i).t.hi /\ (gD (AE c.ns.length λ (i : Nat) => gD c.ns i) i).s.lo = (gD c.ns i).s.lo /\ (gD (AE c.ns.length λ (i : Nat)
 => gD c.ns i) i).s.hi = (gD c.ns i).s.hi) /\ (AE c.ns.length λ (i : Nat) => gD c.ns i).length = 0) /\ c.p.lo = c.p.lo /\ c.p.hi = c.p.hi /\ c.base = c.base /\ c.scale = c.scale /\ c.off = c.off /\ c.ms.length = (AE
 c.ms.length λ (i : Nat) => gD c.ms i).length /\ (∀ (i : Nat), i < c.ms.length -> (gD c.ms i).pl = (gD (AE c.ms.length λ (i : Nat) => gD c.ms i) i).pl /\ (gD c.ms i).ht = (gD (AE c.ms.length λ (i : Nat) => gD c.ms i)
 i).ht) /\ 0 = 0 /\ ∀ (i : Nat), i < 0 -> false = false) := by kernel_rfl
theorem CHS : AL Try.prog bT (C_cpM.spec BVD) := KV C_cpM (λ _ => ann 7 []) [] [] CGC (λ _ => by kernel_rfl) (λ _ => AI) (λ (l : List Mk) h => by
 show CQM l; rw [CTZ]; simp only [CC, eq_self, implies_true, forall_const]
 have h : l.length < 1073741824 := h
 exact ⟨⟨λ h => absurd h (Nat.lt_irrefl 0), (λ h => by cases h), by omega, by omega⟩, λ i hi => by rw [Nat.sub_zero]; exact ⟨rfl, rfl⟩⟩) (λ _ => MD rfl rfl) _
theorem CPC : AL Try.prog UL (C_cpNO.spec BJJ) := KV C_cpNO (λ _ => { ann 7 [] with mt := λ id => id == 2 }) [(0, 3032)] [] BVA (λ _ => by kernel_rfl) (λ _ => AI) (λ (l : List Nt) h => by
 show CJO l; rw [CPB]; simp only [CC, eq_self, implies_true, forall_const]
 obtain ⟨h1, h2⟩ : 0 < l.length /\ l.length < 1073741824 := h
 exact ⟨⟨by omega, h1, by omega, by omega⟩, λ _ _ => ⟨rfl, rfl, rfl, rfl, rfl⟩⟩) (λ _ => MD rfl rfl) _
theorem CUA : AL Try.prog BLJ (C_cpO.spec dC1) := KV C_cpO (λ _ => ann 12 [(bT, C_cpM.spec BVD), (UL, C_cpNO.spec BJJ)]) [(0, 2080)] [] CDI (λ _ => by kernel_rfl) (λ _ => AD CHS (AD CPC AI)) (λ (c : Cht) h => by
 show CQD c; rw [CUQ]; simp only [CC, eq_self, implies_true, forall_const]
 exact (show c.ms.length < 1073741824 /\ 0 < c.ns.length /\ c.ns.length < 1073741824 from h)) (λ _ => MD rfl rfl) _
theorem CND : AL Try.prog UL (C_cpNE.spec BJJ) := okT C_cpNE (λ (l : List Nt) (h : l.length = 0) => by
 obtain rfl : l = [] := List.length_eq_zero_iff.1 h
 have q : FnT Try.prog UL [.d CFW] (AF []) (.d FG) [] := by
  refine QX (A := ann 7 []) (ren := []) (fz := []) BVA (by kernel_rfl) AI ?_
  show CKK default; rw [CMX]; simp only [CC, eq_self, implies_true, forall_const]
  exact ⟨λ h => absurd h (Nat.lt_irrefl 0), λ h => absurd h (Nat.lt_irrefl 0), (λ h => by cases h), by decide, by decide⟩
 refine q.weak (CVF ?_)
 simp only [CFW, yY, lst, BN]
 refine ⟨.inr trivial, rfl, ?_, λ i hi => absurd hi (Nat.not_lt_zero _)⟩
 intro h; cases h) _
theorem CVI : AL Try.prog BLJ (C_cpE.spec dC1) := KV C_cpE (λ _ => ann 12 [(bT, C_cpM.spec BVD), (UL, C_cpNE.spec BJJ)]) [] [] CDI (λ _ => by kernel_rfl) (λ _ => AD CHS (AD CND AI)) (λ (c : Cht) h => by
 show CRJ c; rw [CUP]; simp only [CC, eq_self, implies_true, forall_const]
 exact (show c.ms.length < 1073741824 /\ c.ns.length = 0 from h)) (λ _ => MD rfl rfl) _
end Go.Bal
