/- Package chart: pairs of notes. -/
import Derived.Test.YtdbjalgfomknhaaChG1
set_option linter.unusedVariables false
set_option linter.unusedSimpArgs false
namespace Go.Bal
open Go Go.Sym Go.Proofs
def nA (c : Cht) (p : Pr) : Nt := gD c.ns p.a.toNat
def nB (c : Cht) (p : Pr) : Nt := gD c.ns p.b.toNat
def ALO (n : Int) (p : Pr) : Bool := HK p.a 0 (wr (n - 1)) && HK p.b 0 (wr (n - 1))
def IH (c : Cht) (p : Pr) : Bool := bif ALO c.ns.length p then bif (!(p.a == p.b && p.b == p.a)) then decide ((nA c p).mi < (nB c p).mi) else false else false
def PO (c : Cht) (p : Pr) : Bool := decide (wr ((nB c p).t.lo - (nA c p).t.hi) > wr (c.p.hi * wr ((gD c.ms (nB c p).mi.toNat).pl - (gD c.ms (nA c p).mi.toNat).pl)))
structure DkP where
 w : Dk
 p : Pr
def dDkP : List AVal -> Heap -> Option (DkP × List (Nat × Nat) × List Nat)
 | [.bptr id _, .d p], H => match fJ H id with
  | some (w, q) => some (⟨w, dPr p⟩, [(100, id), (101, q)], [])
  | none => none
 | _, _ => none
def C_pair : Ctr := { ro := [100, 101], α := DkP, xs := λ a => [.bptr 100 0, .d (ePr a.p)], L := λ a => dkL a.w, val := λ a => .bool (IH a.w.c a.p), keep := λ a => dkK a.w, pre := λ a => [a.w.c.ns.length < 1073741824 /\ True] }
def COC : Ann := { ann 59 [(n_in, s_in)] with E := [100, 101] }
def CJV (a : DkP) : Prop := BB Try.prog COC CCC (AL CCC) (C_pair.xs a) (AG (C_pair.L a)) (C_pair.val a) (C_pair.keep a) [] []
theorem COX (a : DkP) : (CJV a) = ((((bif bif HK a.p.a 0 (IntKind.i64.wrap ((↑a.w.c.ns.length : Int) - 1)) then HK a.p.b 0 (IntKind.i64.wrap ((↑a.w.c.ns.length : Int) - 1)) else false then !(a.p.a == a.p.b &&
 (a.p.b == a.p.a && true)) else false) = true -> 0 <= a.p.a /\ a.p.a < (↑a.w.c.ns.length : Int)) /\ ((bif bif HK a.p.a 0 (IntKind.i64.wrap ((↑a.w.c.ns.length : Int) - 1)) then HK a.p.b 0 (IntKind.i64.wrap ((↑a.w.c.ns.length
 : Int) - 1)) else false then !(a.p.a == a.p.b && (a.p.b == a.p.a && true)) else false) = true -> 0 <= a.p.b /\ a.p.b < (↑a.w.c.ns.length : Int))) /\ (IH a.w.c a.p = bif bif bif HK a.p.a 0 (IntKind.i64.wrap
 ((↑a.w.c.ns.length : Int) - 1)) then HK a.p.b 0 (IntKind.i64.wrap ((↑a.w.c.ns.length : Int) - 1)) else false then !(a.p.a == a.p.b && (a.p.b == a.p.a && true)) else false then decide ((gD a.w.c.ns a.p.a.toNat).mi < (gD
 a.w.c.ns a.p.b.toNat).mi) else false) /\ a.w.c.p.lo = a.w.c.p.lo /\ a.w.c.p.hi = a.w.c.p.hi /\ a.w.c.base = a.w.c.base /\ a.w.c.scale = a.w.c.scale /\ a.w.c.off = a.w.c.off /\ a.w.c.ms.length = a.w.c.ms.length /\ (∀ (i : Nat),
 i < a.w.c.ms.length -> (gD a.w.c.ms i).pl = (gD a.w.c.ms i).pl /\ (gD a.w.c.ms i).ht = (gD a.w.c.ms i).ht) /\ a.w.c.ns.length = a.w.c.ns.length /\ (∀ (i : Nat), i < a.w.c.ns.length -> (gD a.w.c.ns i).mi = (gD a.w.c.ns i).mi /\
 (gD a.w.c.ns i).t.lo = (gD a.w.c.ns i).t.lo /\ (gD a.w.c.ns i).t.hi = (gD a.w.c.ns i).t.hi /\ (gD a.w.c.ns i).s.lo = (gD a.w.c.ns i).s.lo /\ (gD a.w.c.ns i).s.hi = (gD a.w.c.ns i).s.hi) /\ (∀ (i : Nat), i < 40 -> a.w.sp i =
 a.w.sp i) /\ AT = AT /\ (∀ (n : Int), hasN a.w.c.ns n = hasN a.w.c.ns n) /\ (∀ (n : Int), a.w.st n = a.w.st n) /\ ∀ (n : Int), (ntOf a.w.c.ns n).mi = (ntOf a.w.c.ns n).mi /\ (ntOf a.w.c.ns n).t.lo = (ntOf a.w.c.ns n).t.lo /\
 (ntOf a.w.c.ns n).t.hi = (ntOf a.w.c.ns n).t.hi /\ (ntOf a.w.c.ns n).s.lo = (ntOf a.w.c.ns n).s.lo /\ (ntOf a.w.c.ns n).s.hi = (ntOf a.w.c.ns n).s.hi) := by kernel_rfl
theorem CQI : AM Try.prog BUL (C_pair.spec dDkP) := LM C_pair (λ _ => COC) [] [] CPT (λ _ => by kernel_rfl) (λ _ => AC BKI AJ) (λ (a : DkP) h => by
 have hn : a.w.c.ns.length < 1073741824 := (show a.w.c.ns.length < 1073741824 /\ True from h).1
 have w1 : IntKind.i64.wrap ((a.w.c.ns.length : Int) - 1) = (a.w.c.ns.length : Int) - 1 := FC (by omega) (by omega)
 show CJV a; rw [COX]; simp only [CC, eq_self, implies_true, forall_const]
 have e : (bif HK a.p.a 0 (IntKind.i64.wrap ((a.w.c.ns.length : Int) - 1)) then HK a.p.b 0 (IntKind.i64.wrap ((a.w.c.ns.length : Int) - 1)) else false) = ALO a.w.c.ns.length a.p := by
  unfold ALO wr; cases HK a.p.a 0 (IntKind.i64.wrap ((a.w.c.ns.length : Int) - 1)) <;> rfl
 rw [e]
 have hb : ALO a.w.c.ns.length a.p = true -> (0 <= a.p.a /\ a.p.a < a.w.c.ns.length) /\ 0 <= a.p.b /\ a.p.b < a.w.c.ns.length := λ h => by
  unfold ALO wr HK at h; rw [w1] at h
  simp only [Bool.and_eq_true, decide_eq_true_eq] at h; omega
 cases hq : ALO a.w.c.ns.length a.p with
 | false =>
  refine ⟨⟨(λ h => by cases h), (λ h => by cases h)⟩, ?_⟩
  unfold IH; rw [hq]; rfl
 | true =>
  refine ⟨⟨λ _ => (hb hq).1, λ _ => (hb hq).2⟩, ?_⟩
  unfold IH; rw [hq]
  simp only [cond_true, Bool.and_true]
  rfl) (λ _ => OA rfl rfl) _
def C_late : Ctr := { ro := [100, 101], α := DkP, xs := λ a => [.bptr 100 0, .d (ePr a.p)], L := λ a => dkL a.w, val := λ a => .bool (PO a.w.c a.p), keep := λ a => dkK a.w, pre := λ a => [((0 <= a.p.a /\ a.p.a < a.w.c.ns.length) /\ 0 <= a.p.b /\ a.p.b < a.w.c.ns.length) /\ (a.w.c.ms.length <= 40 /\ a.w.c.ns.length <= 20) /\ ∀ i, i < a.w.c.ns.length -> 0 <= (gD a.w.c.ns i).mi /\ (gD a.w.c.ns i).mi < a.w.c.ms.length] }
def CHW : Ann := { ann 61 [] with E := [100, 101] }
def CLE (a : DkP) : Prop := BB Try.prog CHW CBJ (AL CBJ) (C_late.xs a) (AG (C_late.L a)) (C_late.val a) (C_late.keep a) [] []
theorem CPQ (a : DkP) : (CLE a) = (((0 <= a.p.a /\ a.p.a < (↑a.w.c.ns.length : Int)) /\ 0 <= a.p.b /\ a.p.b < (↑a.w.c.ns.length : Int)) /\ ((0 <= (gD a.w.c.ns a.p.b.toNat).mi /\ (gD a.w.c.ns a.p.b.toNat).mi <
 (↑a.w.c.ms.length : Int)) /\ 0 <= (gD a.w.c.ns a.p.a.toNat).mi /\ (gD a.w.c.ns a.p.a.toNat).mi < (↑a.w.c.ms.length : Int)) /\ PO a.w.c a.p = decide (IntKind.i64.wrap ((gD a.w.c.ns a.p.b.toNat).t.lo - (gD a.w.c.ns
 a.p.a.toNat).t.hi) > IntKind.i64.wrap (a.w.c.p.hi * IntKind.i64.wrap ((gD a.w.c.ms (gD a.w.c.ns a.p.b.toNat).mi.toNat).pl - (gD a.w.c.ms (gD a.w.c.ns a.p.a.toNat).mi.toNat).pl))) /\ a.w.c.p.lo = a.w.c.p.lo /\ a.w.c.p.hi =
 a.w.c.p.hi /\ a.w.c.base = a.w.c.base /\ a.w.c.scale = a.w.c.scale /\ a.w.c.off = a.w.c.off /\ a.w.c.ms.length = a.w.c.ms.length /\ (∀ (i : Nat), i < a.w.c.ms.length -> (gD a.w.c.ms i).pl = (gD a.w.c.ms i).pl /\ (gD a.w.c.ms
 i).ht = (gD a.w.c.ms i).ht) /\ a.w.c.ns.length = a.w.c.ns.length /\ (∀ (i : Nat), i < a.w.c.ns.length -> (gD a.w.c.ns i).mi = (gD a.w.c.ns i).mi /\ (gD a.w.c.ns i).t.lo = (gD a.w.c.ns i).t.lo /\ (gD a.w.c.ns i).t.hi = (gD
 a.w.c.ns i).t.hi /\ (gD a.w.c.ns i).s.lo = (gD a.w.c.ns i).s.lo /\ (gD a.w.c.ns i).s.hi = (gD a.w.c.ns i).s.hi) /\ (∀ (i : Nat), i < 40 -> a.w.sp i = a.w.sp i) /\ AT = AT /\ (∀ (n : Int), hasN a.w.c.ns n = hasN a.w.c.ns n) /\
 (∀ (n : Int), a.w.st n = a.w.st n) /\ ∀ (n : Int), (ntOf a.w.c.ns n).mi = (ntOf a.w.c.ns n).mi /\ (ntOf a.w.c.ns n).t.lo = (ntOf a.w.c.ns n).t.lo /\ (ntOf a.w.c.ns n).t.hi = (ntOf a.w.c.ns n).t.hi /\ (ntOf a.w.c.ns n).s.lo =
 (ntOf a.w.c.ns n).s.lo /\ (ntOf a.w.c.ns n).s.hi = (ntOf a.w.c.ns n).s.hi) := by kernel_rfl
theorem CEN : AM Try.prog BQV (C_late.spec dDkP) := LM C_late (λ _ => CHW) [] [] CRS (λ _ => by kernel_rfl) (λ _ => AJ) (λ (a : DkP) h => by
 obtain ⟨⟨h1, h2⟩, _, h3⟩ : ((0 <= a.p.a /\ a.p.a < a.w.c.ns.length) /\ 0 <= a.p.b /\ a.p.b < a.w.c.ns.length) /\ (a.w.c.ms.length <= 40 /\ a.w.c.ns.length <= 20) /\ ∀ i, i < a.w.c.ns.length -> 0 <= (gD a.w.c.ns i).mi /\ (gD a.w.c.ns i).mi < a.w.c.ms.length := h
 show CLE a; rw [CPQ]; simp only [CC, eq_self, implies_true, forall_const]
 exact ⟨⟨h1, h2⟩, ⟨h3 _ (by omega), h3 _ (by omega)⟩, rfl⟩) (λ _ => OA rfl rfl) _
end Go.Bal
