/- Package chart: data, and how they read. -/
import Derived.Test.YtdbjalgfomknhaaGreatChaN
import Derived.Test.YtdbjalgfomknhaaGreatChZn
set_option linter.unusedVariables false
set_option linter.unusedSimpArgs false
namespace Go.Bal
open Go Go.Sym Go.Proofs
structure Mk where
 pl : Int
 ht : Int
 deriving Inhabited, DecidableEq
structure Nt where
 mi : Int
 t : Span
 s : Span
 deriving Inhabited, DecidableEq
structure Pr where
 a : Int
 b : Int
 deriving Inhabited, DecidableEq
structure Cht where
 p : Span
 base : Int
 scale : Int
 off : Int
 ms : List Mk
 ns : List Nt
 deriving Inhabited, DecidableEq
structure Tru where
 t : List Int
 s : List Int
 z : List Int
 deriving Inhabited, DecidableEq
def eMk (m : Mk) : DVal := .agg [US m.pl, US m.ht]
def eNt (n : Nt) : DVal := .agg [US n.mi, US n.t.lo, US n.t.hi, US n.s.lo, US n.s.hi]
def ePr (p : Pr) : DVal := .agg [US p.a, US p.b]
def tT (l : List Mk) : DVal := lst 2 l.length λ i => eMk (gD l i)
def lK (l : List Nt) : DVal := lst 5 l.length λ i => eNt (gD l i)
def bQ (l : List Pr) : DVal := lst 2 l.length λ i => ePr (gD l i)
def DA (l : List Span) : DVal := lst 2 l.length λ i => FX (gD l i)
def Ef (c : Cht) : DVal := .agg [US c.p.lo, US c.p.hi, US c.base, US c.scale, US c.off, tT c.ms, lK c.ns]
def dMk : DVal -> Mk
 | .agg [a, b] => ⟨HM a, HM b⟩
 | _ => default
def dNt : DVal -> Nt
 | .agg [a, b, c, d, e] => ⟨HM a, ⟨HM b, HM c⟩, ⟨HM d, HM e⟩⟩
 | _ => default
def dPr : DVal -> Pr
 | .agg [a, b] => ⟨HM a, HM b⟩
 | _ => default
theorem BQU (g : Mk) : dMk (eMk g) = g := rfl
theorem BPD (g : Nt) : dNt (eNt g) = g := rfl
theorem BRD (g : Pr) : dPr (ePr g) = g := rfl
def dMks (a : AVal) (H : Heap) : Option (List Mk × List Nat) := match vH a H with
 | some (n, g, f) => some (QR n λ i => dMk (g i), f)
 | none => none
def dNts (a : AVal) (H : Heap) : Option (List Nt × List Nat) := match vH a H with
 | some (n, g, f) => some (QR n λ i => dNt (g i), f)
 | none => none
def dPrs (a : AVal) (H : Heap) : Option (List Pr × List Nat) := match vH a H with
 | some (n, g, f) => some (QR n λ i => dPr (g i), f)
 | none => none
def Vb (a : AVal) (H : Heap) : Option (List Span × List Nat) := match vH a H with
 | some (n, g, f) => some (QR n λ i => Ku (g i), f)
 | none => none
def vO : AVal -> Heap -> Option (Cht × List Nat)
 | .d (.agg [a, b, c, d, e, .list _ n f _, .list _ m g _]), _ => some (⟨⟨HM a, HM b⟩, HM c, HM d, HM e, QR n λ i => dMk (f i), QR m λ i => dNt (g i)⟩, [])
 | .agg [.d a, .d b, .d c, .d d, .d e, x, y], H => match dMks x H, dNts y H with
  | some (l, f1), some (m, f2) => some (⟨⟨HM a, HM b⟩, HM c, HM d, HM e, l, m⟩, f1 ++ f2)
  | _, _ => none
 | _, _ => none
def pD {α : Type} (dec : List AVal -> Option α) (val : α -> AVal) (pre : α -> List Prop := λ _ => []) : Sym.Spec := tC λ xs => match dec xs with
 | some a => some (val a, pre a)
 | none => none
theorem Ik {α : Type} {g : FuncId} {dec : List AVal -> Option α} {val : α -> AVal} {pre : α -> List Prop} (enc : α -> List AVal) (hde : ∀ xs a, dec xs = some a -> xs = enc a) (h : ∀ a, EF (pre a) -> FnT Try.prog g (enc a) (AB []) (val a) []) : AK Try.prog g (pD dec val pre) := F9 λ xs v p hf hp => by
 split at hf
 ·rename_i a ha
  cases hf
  rw [hde xs a ha]; exact h a hp
 ·cases hf
def dI1 : List AVal -> Option Int
 | [.d (.v (.int .i64 a))] => some a
 | _ => none
def xI1 (a : Int) : List AVal := [.int a]
theorem hI1 (xs : List AVal) (a : Int) (h : dI1 xs = some a) : xs = xI1 a := by
 unfold dI1 at h; split at h <;> cases h; rfl
structure I2 where
 a : Int
 b : Int
structure I3 where
 a : Int
 b : Int
 c : Int
def dI2 : List AVal -> Option I2
 | [.d (.v (.int .i64 a)), .d (.v (.int .i64 b))] => some ⟨a, b⟩
 | _ => none
def xI2 (x : I2) : List AVal := [.int x.a, .int x.b]
theorem hI2 (xs : List AVal) (a : I2) (h : dI2 xs = some a) : xs = xI2 a := by
 unfold dI2 at h; split at h <;> cases h; rfl
def dI3 : List AVal -> Option I3
 | [.d (.v (.int .i64 a)), .d (.v (.int .i64 b)), .d (.v (.int .i64 c))] => some ⟨a, b, c⟩
 | _ => none
def xI3 (x : I3) : List AVal := [.int x.a, .int x.b, .int x.c]
theorem hI3 (xs : List AVal) (a : I3) (h : dI3 xs = some a) : xs = xI3 a := by
 unfold dI3 at h; split at h <;> cases h; rfl
def dS1 : List AVal -> Option Span
 | [.d (.agg [.v (.int .i64 a), .v (.int .i64 b)])] => some ⟨a, b⟩
 | _ => none
def xS1 (g : Span) : List AVal := [.d (FX g)]
theorem hS1 (xs : List AVal) (a : Span) (h : dS1 xs = some a) : xs = xS1 a := by
 unfold dS1 at h; split at h <;> cases h; rfl
structure SII where
 s : Span
 a : Int
 b : Int
def dSII : List AVal -> Option SII
 | [.d (.agg [.v (.int .i64 p), .v (.int .i64 q)]), .d (.v (.int .i64 a)), .d (.v (.int .i64 b))] => some ⟨⟨p, q⟩, a, b⟩
 | _ => none
def xSII (x : SII) : List AVal := [.d (FX x.s), .int x.a, .int x.b]
theorem hSII (xs : List AVal) (a : SII) (h : dSII xs = some a) : xs = xSII a := by
 unfold dSII at h; split at h <;> cases h; rfl
structure NtI where
 n : Nt
 a : Int
def dNtI : List AVal -> Option NtI
 | [.d (.agg [.v (.int .i64 a), .v (.int .i64 b), .v (.int .i64 c), .v (.int .i64 d), .v (.int .i64 e)]), .d (.v (.int .i64 s))] => some ⟨⟨a, ⟨b, c⟩, ⟨d, e⟩⟩, s⟩
 | _ => none
def xNtI (x : NtI) : List AVal := [.d (eNt x.n), .int x.a]
theorem hNtI (xs : List AVal) (a : NtI) (h : dNtI xs = some a) : xs = xNtI a := by
 unfold dNtI at h; split at h <;> cases h; rfl
def orS (s t : Sym.Spec) : Sym.Spec := λ xs H r => match s xs H r with
 | some x => some x
 | none => t xs H r
theorem AWB {g : FuncId} {s t : Sym.Spec} (h1 : AK Try.prog g s) (h2 : AK Try.prog g t) : AK Try.prog g (orS s t) := λ xs H r x hx hp => by
 unfold orS at hx
 split at hx
 ·rename_i y hy; cases hx; exact h1 xs H r _ hy hp
 ·exact h2 xs H r x hx hp
theorem bU {α : Type} [Inhabited α] {l : List α} {k : Nat} (h : k < l.length) : l.take (k + 1) = l.take k ++ [gD l k] := by
 rw [List.take_add_one, List.getElem?_eq_getElem h]; simp [gD, List.getD_eq_getElem?_getD, h]
theorem mulb {a b A B : Int} (h1 : 0 <= a) (h2 : a <= A) (h3 : 0 <= b) (h4 : b <= B) : 0 <= a * b /\ a * b <= A * B :=
 ⟨Int.mul_nonneg h1 h3, Int.mul_le_mul h2 h4 h3 (by omega)⟩
structure NI where
 k : Nat
 m : Int
 deriving Inhabited
theorem CC : ((∀ {b : Bool} {p q : Prop}, (bif b then p else q) = ((b = true -> p) /\ (b = false -> q))) /\ (∀ (p : Prop), (p /\ p) = p) /\ (∀ (p : Prop), (True /\ p) = p) /\ (∀ (p : Prop), (p /\ True) = p) /\ (∀ (p : Prop), (True -> p) = p) /\ (∀ {p : Prop} [inst : Decidable p], (decide p = true) = p) /\ (∀ {p : Prop} {x : Decidable p}, decide p = false ↔ ¬p)) /\ (∀ (n : Nat), (n : Int).toNat = n) /\ (∀ (s : Span), Ku (FX s) = s) /\ (∀ (n : Int), HM (US n) = n) /\ (∀ (g : Mk), dMk (eMk g) = g) /\ (∀ (g : Nt), dNt (eNt g) = g) /\ (∀ (g : Pr), dPr (ePr g) = g) /\ (∀ (n : Nat), 0 + n = n) /\ (∀ (a : Int), 0 - a = -a) /\ (∀ {x y : Nat}, x.le y = (x <= y)) /\ (∀ (n : Nat), n.succ = n + 1) /\ (∀ {n m : Nat}, n + 1 <= m ↔ n < m) /\ (∀ (b : Bool), ((!b) = true) = (b = false)) /\ (∀ (b : Bool), ((!b) = false) = (b = true)) /\ (∀ {α : Type} (n : Nat) (f : Nat -> α), (QR n f).length = n) /\ (∀ (a b : Int), Ku (.agg [US a, US b]) = ⟨a, b⟩) /\ (∀ {α : Type} [Inhabited α] (l : List α), (QR l.length λ i => gD l i) = l) := ⟨⟨BCA, and_self, true_and, and_true, true_implies, decide_eq_true_eq, decide_eq_false_iff_not⟩, Int.toNat_natCast, dSpan_eSpan, dInt_eInt, BQU, BPD, BRD, Nat.zero_add, Int.zero_sub, Nat.le_eq, Nat.succ_eq_add_one, Nat.add_one_le_iff, Bool.not_eq_true', Bool.not_eq_false', rng_length, AZF, WU⟩
end Go.Bal
namespace Go.Bal.DL
open Go.Sym Go
theorem g1 (s : Mk) : dMk (eMk s) = s := rfl
theorem g2 (s : Nt) : dNt (eNt s) = s := rfl
theorem g3 (s : Pr) : dPr (ePr s) = s := rfl
theorem h1 (a b : Int) : dMk (.agg [US a, US b]) = Mk.mk a b := rfl
theorem h2 (a b c d e : Int) : dNt (.agg [US a, US b, US c, US d, US e]) = Nt.mk a (Span.mk b c) (Span.mk d e) := rfl
theorem h3 (a b : Int) : dPr (.agg [US a, US b]) = Pr.mk a b := rfl
theorem k1 (s : Mk) : Mk.mk s.pl s.ht = s := rfl
theorem k2 (s : Nt) : Nt.mk s.mi (Span.mk s.t.lo s.t.hi) (Span.mk s.s.lo s.s.hi) = s := rfl
theorem k3 (s : Pr) : Pr.mk s.a s.b = s := rfl
end Go.Bal.DL
