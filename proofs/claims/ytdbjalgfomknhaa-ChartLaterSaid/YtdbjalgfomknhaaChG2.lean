/- Package chart: pairs of notes. -/
import Derived.Test.YtdbjalgfomknhaaChG1
set_option linter.unusedVariables false
set_option linter.unusedSimpArgs false
namespace Go.Bal
open Go Go.Sym Go.Proofs
def nA (c : Cht) (p : Pr) : Nt := gD c.ns p.a.toNat
def nB (c : Cht) (p : Pr) : Nt := gD c.ns p.b.toNat
def AMG (n : Int) (p : Pr) : Bool := GT p.a 0 (wr (n - 1)) && GT p.b 0 (wr (n - 1))
def HR (c : Cht) (p : Pr) : Bool := bif AMG c.ns.length p then bif (!(p.a == p.b && p.b == p.a)) then decide ((nA c p).mi < (nB c p).mi) else false else false
def KT (c : Cht) (p : Pr) : Bool := decide (wr ((nB c p).t.lo - (nA c p).t.hi) > wr (c.p.hi * wr ((gD c.ms (nB c p).mi.toNat).pl - (gD c.ms (nA c p).mi.toNat).pl)))
structure DkP where
 w : Dk
 p : Pr
def dDkP : List AVal -> Heap -> Option (DkP × List (Nat × Nat) × List Nat)
 | [.bptr id _, .d p], H => match hC H id with
  | some (w, q) => some (⟨w, dPr p⟩, [(100, id), (101, q)], [])
  | none => none
 | _, _ => none
def C_pair : Ctr := { ro := [100, 101], α := DkP, xs := λ a => [.bptr 100 0, .d (ePr a.p)], L := λ a => dkL a.w, val := λ a => .bool (HR a.w.c a.p), keep := λ a => dkK a.w, pre := λ a => [a.w.c.ns.length < 1073741824 /\ True] }
def CHL : Ann := { ann 59 [(n_in, s_in)] with E := [100, 101] }
def CGY (a : DkP) : Prop := AW Try.prog CHL BZG (AK BZG) (C_pair.xs a) (AF (C_pair.L a)) (C_pair.val a) (C_pair.keep a) [] []
theorem CPU (a : DkP) : (CGY a) = ((((bif bif GT a.p.a 0 (IntKind.i64.wrap ((↑a.w.c.ns.length : Int) - 1)) then GT a.p.b 0 (IntKind.i64.wrap ((↑a.w.c.ns.length : Int) - 1)) else false then !(a.p.a == a.p.b &&
 (a.p.b == a.p.a && true)) else false) = true -> 0 <= a.p.a /\ a.p.a < (↑a.w.c.ns.length : Int)) /\ ((bif bif GT a.p.a 0 (IntKind.i64.wrap ((↑a.w.c.ns.length : Int) - 1)) then GT a.p.b 0 (IntKind.i64.wrap ((↑a.w.c.ns.length
 : Int) - 1)) else false then !(a.p.a == a.p.b && (a.p.b == a.p.a && true)) else false) = true -> 0 <= a.p.b /\ a.p.b < (↑a.w.c.ns.length : Int))) /\ (HR a.w.c a.p = bif bif bif GT a.p.a 0 (IntKind.i64.wrap
 ((↑a.w.c.ns.length : Int) - 1)) then GT a.p.b 0 (IntKind.i64.wrap ((↑a.w.c.ns.length : Int) - 1)) else false then !(a.p.a == a.p.b && (a.p.b == a.p.a && true)) else false then decide ((gD a.w.c.ns a.p.a.toNat).mi < (gD
 a.w.c.ns a.p.b.toNat).mi) else false) /\ a.w.c.p.lo = a.w.c.p.lo /\ a.w.c.p.hi = a.w.c.p.hi /\ a.w.c.base = a.w.c.base /\ a.w.c.scale = a.w.c.scale /\ a.w.c.off = a.w.c.off /\ a.w.c.ms.length = a.w.c.ms.length /\ (∀ (i : Nat),
 i < a.w.c.ms.length -> (gD a.w.c.ms i).pl = (gD a.w.c.ms i).pl /\ (gD a.w.c.ms i).ht = (gD a.w.c.ms i).ht) /\ a.w.c.ns.length = a.w.c.ns.length /\ (∀ (i : Nat), i < a.w.c.ns.length -> (gD a.w.c.ns i).mi = (gD a.w.c.ns i).mi /\
 (gD a.w.c.ns i).t.lo = (gD a.w.c.ns i).t.lo /\ (gD a.w.c.ns i).t.hi = (gD a.w.c.ns i).t.hi /\ (gD a.w.c.ns i).s.lo = (gD a.w.c.ns i).s.lo /\ (gD a.w.c.ns i).s.hi = (gD a.w.c.ns i).s.hi) /\ (∀ (i : Nat), i < 40 -> a.w.sp i =
 a.w.sp i) /\ AT = AT /\ (∀ (n : Int), hasN a.w.c.ns n = hasN a.w.c.ns n) /\ (∀ (n : Int), a.w.st n = a.w.st n) /\ ∀ (n : Int), (ntOf a.w.c.ns n).mi = (ntOf a.w.c.ns n).mi /\ (ntOf a.w.c.ns n).t.lo = (ntOf a.w.c.ns n).t.lo /\
 (ntOf a.w.c.ns n).t.hi = (ntOf a.w.c.ns n).t.hi /\ (ntOf a.w.c.ns n).s.lo = (ntOf a.w.c.ns n).s.lo /\ (ntOf a.w.c.ns n).s.hi = (ntOf a.w.c.ns n).s.hi) := by kernel_rfl
theorem CPJ : AL Try.prog BLP (C_pair.spec dDkP) := KV C_pair (λ _ => CHL) [] [] COM (λ _ => by kernel_rfl) (λ _ => AD BJI AI) (λ (a : DkP) h => by
 have hn : a.w.c.ns.length < 1073741824 := (show a.w.c.ns.length < 1073741824 /\ True from h).1
 have w1 : IntKind.i64.wrap ((a.w.c.ns.length : Int) - 1) = (a.w.c.ns.length : Int) - 1 := CP (by omega) (by omega)
 show CGY a; rw [CPU]; simp only [CC, eq_self, implies_true, forall_const]
 have e : (bif GT a.p.a 0 (IntKind.i64.wrap ((a.w.c.ns.length : Int) - 1)) then GT a.p.b 0 (IntKind.i64.wrap ((a.w.c.ns.length : Int) - 1)) else false) = AMG a.w.c.ns.length a.p := by
  unfold AMG wr; cases GT a.p.a 0 (IntKind.i64.wrap ((a.w.c.ns.length : Int) - 1)) <;> rfl
 rw [e]
 have hb : AMG a.w.c.ns.length a.p = true -> (0 <= a.p.a /\ a.p.a < a.w.c.ns.length) /\ 0 <= a.p.b /\ a.p.b < a.w.c.ns.length := λ h => by
  unfold AMG wr GT at h; rw [w1] at h
  simp only [Bool.and_eq_true, decide_eq_true_eq] at h; omega
 cases hq : AMG a.w.c.ns.length a.p with
 | false =>
  refine ⟨⟨(λ h => by cases h), (λ h => by cases h)⟩, ?_⟩
  unfold HR; rw [hq]; rfl
 | true =>
  refine ⟨⟨λ _ => (hb hq).1, λ _ => (hb hq).2⟩, ?_⟩
  unfold HR; rw [hq]
  simp only [cond_true, Bool.and_true]
  rfl) (λ _ => MD rfl rfl) _
def C_late : Ctr := { ro := [100, 101], α := DkP, xs := λ a => [.bptr 100 0, .d (ePr a.p)], L := λ a => dkL a.w, val := λ a => .bool (KT a.w.c a.p), keep := λ a => dkK a.w, pre := λ a => [((0 <= a.p.a /\ a.p.a < a.w.c.ns.length) /\ 0 <= a.p.b /\ a.p.b < a.w.c.ns.length) /\ (a.w.c.ms.length <= 40 /\ a.w.c.ns.length <= 20) /\ ∀ i, i < a.w.c.ns.length -> 0 <= (gD a.w.c.ns i).mi /\ (gD a.w.c.ns i).mi < a.w.c.ms.length] }
def CIW : Ann := { ann 61 [] with E := [100, 101] }
def CKF (a : DkP) : Prop := AW Try.prog CIW BZL (AK BZL) (C_late.xs a) (AF (C_late.L a)) (C_late.val a) (C_late.keep a) [] []
theorem CNR (a : DkP) : (CKF a) = (((0 <= a.p.a /\ a.p.a < (↑a.w.c.ns.length : Int)) /\ 0 <= a.p.b /\ a.p.b < (↑a.w.c.ns.length : Int)) /\ ((0 <= (gD a.w.c.ns a.p.b.toNat).mi /\ (gD a.w.c.ns a.p.b.toNat).mi <
 (↑a.w.c.ms.length : Int)) /\ 0 <= (gD a.w.c.ns a.p.a.toNat).mi /\ (gD a.w.c.ns a.p.a.toNat).mi < (↑a.w.c.ms.length : Int)) /\ KT a.w.c a.p = decide (IntKind.i64.wrap ((gD a.w.c.ns a.p.b.toNat).t.lo - (gD a.w.c.ns
 a.p.a.toNat).t.hi) > IntKind.i64.wrap (a.w.c.p.hi * IntKind.i64.wrap ((gD a.w.c.ms (gD a.w.c.ns a.p.b.toNat).mi.toNat).pl - (gD a.w.c.ms (gD a.w.c.ns a.p.a.toNat).mi.toNat).pl))) /\ a.w.c.p.lo = a.w.c.p.lo /\ a.w.c.p.hi =
 a.w.c.p.hi /\ a.w.c.base = a.w.c.base /\ a.w.c.scale = a.w.c.scale /\ a.w.c.off = a.w.c.off /\ a.w.c.ms.length = a.w.c.ms.length /\ (∀ (i : Nat), i < a.w.c.ms.length -> (gD a.w.c.ms i).pl = (gD a.w.c.ms i).pl /\ (gD a.w.c.ms
 i).ht = (gD a.w.c.ms i).ht) /\ a.w.c.ns.length = a.w.c.ns.length /\ (∀ (i : Nat), i < a.w.c.ns.length -> (gD a.w.c.ns i).mi = (gD a.w.c.ns i).mi /\ (gD a.w.c.ns i).t.lo = (gD a.w.c.ns i).t.lo /\ (gD a.w.c.ns i).t.hi = (gD
 a.w.c.ns i).t.hi /\ (gD a.w.c.ns i).s.lo = (gD a.w.c.ns i).s.lo /\ (gD a.w.c.ns i).s.hi = (gD a.w.c.ns i).s.hi) /\ (∀ (i : Nat), i < 40 -> a.w.sp i = a.w.sp i) /\ AT = AT /\ (∀ (n : Int), hasN a.w.c.ns n = hasN a.w.c.ns n) /\
 (∀ (n : Int), a.w.st n = a.w.st n) /\ ∀ (n : Int), (ntOf a.w.c.ns n).mi = (ntOf a.w.c.ns n).mi /\ (ntOf a.w.c.ns n).t.lo = (ntOf a.w.c.ns n).t.lo /\ (ntOf a.w.c.ns n).t.hi = (ntOf a.w.c.ns n).t.hi /\ (ntOf a.w.c.ns n).s.lo =
 (ntOf a.w.c.ns n).s.lo /\ (ntOf a.w.c.ns n).s.hi = (ntOf a.w.c.ns n).s.hi) := by kernel_rfl
theorem CBB : AL Try.prog BKC (C_late.spec dDkP) := KV C_late (λ _ => CIW) [] [] CMP (λ _ => by kernel_rfl) (λ _ => AI) (λ (a : DkP) h => by
 obtain ⟨⟨h1, h2⟩, _, h3⟩ : ((0 <= a.p.a /\ a.p.a < a.w.c.ns.length) /\ 0 <= a.p.b /\ a.p.b < a.w.c.ns.length) /\ (a.w.c.ms.length <= 40 /\ a.w.c.ns.length <= 20) /\ ∀ i, i < a.w.c.ns.length -> 0 <= (gD a.w.c.ns i).mi /\ (gD a.w.c.ns i).mi < a.w.c.ms.length := h
 show CKF a; rw [CNR]; simp only [CC, eq_self, implies_true, forall_const]
 exact ⟨⟨h1, h2⟩, ⟨h3 _ (by omega), h3 _ (by omega)⟩, rfl⟩) (λ _ => MD rfl rfl) _
end Go.Bal
