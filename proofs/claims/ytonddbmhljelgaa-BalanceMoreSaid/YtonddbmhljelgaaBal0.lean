/- Package balance: data, and how they read. -/
import Derived.Test.YtonddbmhljelgaaSym9
import Derived.Test.YtonddbmhljelgaaProg
import Derived.KernelRfl
set_option linter.unusedVariables false
set_option linter.unusedSimpArgs false
namespace Go.Bal
open Go Go.Sym Go.Proofs
def gD {α : Type} [Inhabited α] (l : List α) (i : Nat) : α := l.getD i default
def AC {α : Type} (n : Nat) (f : Nat -> α) : List α := (List.range n).map f
@[simp] theorem rng_length {α : Type} (n : Nat) (f : Nat -> α) : (AC n f).length = n := by simp [AC]
theorem Ky {α : Type} [Inhabited α] (n : Nat) (f : Nat -> α) (i : Nat) (h : i < n) : gD (AC n f) i = f i := by
 simp [gD, AC, List.getD_eq_getElem?_getD, h]
theorem MM {α : Type} [Inhabited α] (l : List α) : AC l.length (λ i => gD l i) = l := by
 apply List.ext_getElem
 ·simp
 ·intro i h1 h2
  simp [gD, AC, List.getD_eq_getElem?_getD, h2]
theorem BR {α : Type} [Inhabited α] {l : List α} {k : Nat} {f : α -> α} (h : k < l.length) (i : Nat) : gD (l.modify k f) i = if i = k then f (gD l k) else gD l i := by
 simp only [gD, List.getD_eq_getElem?_getD, List.getElem?_modify]
 by_cases hi : i = k
 ·subst hi; simp [h]
 ·rw [if_neg hi]; simp [Ne.symm hi]
theorem No {α : Type} [Inhabited α] {l : List α} {k : Nat} {x : α} (h : k < l.length) (i : Nat) : gD (l.set k x) i = if i = k then x else gD l i := by
 simp only [gD, List.getD_eq_getElem?_getD, List.getElem?_set]
 by_cases hi : i = k
 ·subst hi; simp [h]
 ·rw [if_neg (Ne.symm hi), if_neg hi]
theorem CA {α : Type} [Inhabited α] (l m : List α) (i : Nat) : gD (l ++ m) i = if i < l.length then gD l i else gD m (i - l.length) := by
 simp only [gD, List.getD_eq_getElem?_getD]
 split
 ·rename_i h; rw [List.getElem?_append_left h]
 ·rename_i h; rw [List.getElem?_append_right (by omega)]
theorem FK {α : Type} [Inhabited α] (n : Nat) (x : α) (i : Nat) : gD (List.replicate n x) i = if i < n then x else default := by
 simp only [gD, List.getD_eq_getElem?_getD, List.getElem?_replicate]
 split <;> rfl
theorem DX {α : Type} [Inhabited α] {l : List α} {k : Nat} (h : k < l.length) : l.drop k = gD l k :: l.drop (k + 1) := by
 rw [List.drop_eq_getElem_cons h]; simp [gD, List.getD_eq_getElem?_getD, h]
theorem OD {α : Type} [Inhabited α] {l m : List α} (hl : l.length = m.length) (h : ∀ i, i < l.length -> gD l i = gD m i) : l = m := by
 apply List.ext_getElem hl
 intro i h1 h2
 have := h i h1
 simpa [gD, List.getD_eq_getElem?_getD, h1, h2] using this
structure Span where
 lo : Int
 hi : Int
 deriving Inhabited, DecidableEq
structure Reach where
 fr : Int
 to : Int
 sp : Span
 deriving Inhabited, DecidableEq
structure Net where
 nG : Nat
 g : Nat -> Span
 nR : Nat
 r : Nat -> Reach
 deriving Inhabited
structure Way where
 fr : Int
 to : Int
 sp : Span
 now : Int
 deriving Inhabited, DecidableEq
structure Step where
 way : Int
 back : Bool
 deriving Inhabited, DecidableEq
structure Far where
 cost : Int
 many : Int
 by' : Step
 deriving Inhabited, DecidableEq
def CE (n : Int) : DVal := .v (.int .i64 n)
def Cs (b : Bool) : DVal := .v (.bool b)
def JU (s : Span) : DVal := .agg [CE s.lo, CE s.hi]
def LG (r : Reach) : DVal := .agg [CE r.fr, CE r.to, CE r.sp.lo, CE r.sp.hi]
def IX (w : Way) : DVal := .agg [CE w.fr, CE w.to, CE w.sp.lo, CE w.sp.hi, CE w.now]
def OR (s : Step) : DVal := .agg [CE s.way, Cs s.back]
def Tn (f : Far) : DVal := .agg [CE f.cost, CE f.many, CE f.by'.way, Cs f.by'.back]
def Pw (k n : Nat) (g : Nat -> DVal) : DVal := .list k n g false
def Ad (n : Nat) (g : Nat -> Span) : DVal := Pw 2 n λ i => JU (g i)
def YU (n : Nat) (g : Nat -> Reach) : DVal := Pw 4 n λ i => LG (g i)
def Sx (N : Net) : DVal := .agg [Ad N.nG N.g, YU N.nR N.r]
def EW : DVal -> Int
 | .v (.int _ n) => n
 | _ => 0
def Sf : DVal -> Bool
 | .v (.bool b) => b
 | _ => false
def HH : DVal -> Span
 | .agg [a, b] => ⟨EW a, EW b⟩
 | _ => default
def ET : DVal -> Reach
 | .agg [a, b, c, d] => ⟨EW a, EW b, ⟨EW c, EW d⟩⟩
 | _ => default
def IF : DVal -> Way
 | .agg [a, b, c, d, e] => ⟨EW a, EW b, ⟨EW c, EW d⟩, EW e⟩
 | _ => default
def VG : DVal -> Step
 | .agg [a, b] => ⟨EW a, Sf b⟩
 | _ => default
def Re : DVal -> Far
 | .agg [a, b, c, d] => ⟨EW a, EW b, ⟨EW c, Sf d⟩⟩
 | _ => default
def AJ (f : Func) : Code := f.body.getD .skip
@[simp] theorem dInt_eInt (n : Int) : EW (CE n) = n := rfl
@[simp] theorem dSpan_eSpan (s : Span) : HH (JU s) = s := rfl
@[simp] theorem dReach_eReach (s : Reach) : ET (LG s) = s := rfl
@[simp] theorem dWay_eWay (s : Way) : IF (IX s) = s := rfl
@[simp] theorem dStep_eStep (s : Step) : VG (OR s) = s := rfl
@[simp] theorem dFar_eFar (s : Far) : Re (Tn s) = s := rfl
theorem Mv (a b : Int) : HH (.agg [CE a, CE b]) = Span.mk a b := rfl
theorem Ld (a b c d : Int) : ET (.agg [CE a, CE b, CE c, CE d]) = Reach.mk a b (Span.mk c d) := rfl
theorem Rk (a b c d e : Int) : IF (.agg [CE a, CE b, CE c, CE d, CE e]) = Way.mk a b (Span.mk c d) e := rfl
theorem Nn (a : Int) (b : Bool) : VG (.agg [CE a, Cs b]) = Step.mk a b := rfl
theorem Qv (a b c : Int) (d : Bool) : Re (.agg [CE a, CE b, CE c, Cs d]) = Far.mk a b (Step.mk c d) := rfl
def ann (n : Nat) (l : List (FuncId × Sym.Spec)) : Ann := { base := λ id => 1000 * (id + 1), Γ := Sym.look l, E := [], n := n }
def Ta (A : Ann) (fn : Func) (xs : List AVal) (L : List (Nat × AObj)) (keep : List (Nat × HCell)) : Bool :=
 !(fn.name == "runtime.NumGoroutine") && fn.body.isSome && Nat.beq A.n fn.ntmps && Nat.ble xs.length fn.ntmps && A.E == L.map (·.1) && nodup (keep.map (·.1))
theorem Kq : Try.prog.follows .mixedOrders = true := by kernel_rfl
theorem KF {A : Ann} (h : A.iterIn = λ _ _ => none) (h2 : A.iter = λ _ => none) : VM Try.prog A := λ gs g x e => by
 rw [Ann.iterAt, h] at e; simp only [h2] at e; cases e
theorem RX {A : Ann} {g : FuncId} {fn : Func} {xs : List AVal} {L : List (Nat × AObj)} {val : AVal} {keep : List (Nat × HCell)} {ren : List (Nat × Nat)} {fz : List Nat} (hf : Try.prog.funcs[g]? = some fn) (hok : Ta A fn xs L keep = true)
  (hΓ : Er Try.prog A.Γ) (h : BM Try.prog A fn (AJ fn) xs (AE L) val keep ren fz) (hI : VM Try.prog A := by exact KF rfl rfl) : FnT Try.prog g xs (AE L) val keep := by
 simp only [Ta, Bool.and_eq_true, Bool.not_eq_true', beq_iff_eq, CU, Nat.ble_eq, Option.isSome_iff_exists] at hok
 obtain ⟨⟨⟨⟨⟨h1, code, h2⟩, h3⟩, h4⟩, h5⟩, h6⟩ := hok
 exact FnT.of_vc hΓ hI Kq hf h1 h2 ⟨h3, h4⟩ h5 h6 (by unfold AJ at h; rw [h2] at h; exact h)
def Ao : DVal -> Prop
 | .agg [.v (.int .i64 _), .v (.int .i64 _)] => True
 | _ => False
def YG : DVal -> Prop
 | .agg [.v (.int .i64 _), .v (.int .i64 _), .v (.int .i64 _), .v (.int .i64 _)] => True
 | _ => False
theorem Cn {d : DVal} (h : Ao d) : d = JU (HH d) := by
 unfold Ao at h; split at h
 ·rfl
 ·exact h.elim
theorem Hw {d : DVal} (h : YG d) : d = LG (ET d) := by
 unfold YG at h; split at h
 ·rfl
 ·exact h.elim
theorem Ek {k n : Nat} {g g' : Nat -> DVal} {e : Bool} (h : ∀ i, i < n -> g' i = g i) : CO (Pw k n g) (.list k n g' e) := by
 simp only [Pw, CO]
 exact ⟨.inl trivial, trivial, (λ h => by cases h), λ i hi => by rw [h i hi]; exact IV _⟩
theorem Sm {x y : DVal} (h : CO x y) : JL (λ i => i) (λ i => (DA [] i).isSome) [.d x] [.d y] := ⟨h, trivial⟩
theorem OT {n : Int} (h0 : -9223372036854775808 <= n) (h1 : n <= 9223372036854775807) : IntKind.i64.wrap n = n := by
 simp only [IntKind.wrap, IntKind.bits, IntKind.signed]
 rcases Int.lt_or_le n 0 with h | h
 ·have : n % (2 ^ 64 : Int) = n + 2 ^ 64 := by
   rw [<- Int.add_emod_right]; exact Int.emod_eq_of_lt (by omega) (by omega)
  simp only [this]
  rw [if_pos (by simp; omega)]; omega
 ·have : n % (2 ^ 64 : Int) = n := Int.emod_eq_of_lt h (by omega)
  simp only [this]
  rw [if_neg (by simp; omega)]
theorem BB {a : Nat} (h : a < 9223372036854775807) : IntKind.i64.wrap ((a : Int) + 1) = ((a + 1 : Nat) : Int) := by
 rw [OT (by omega) (by omega)]; rfl
def GC (p : Nat -> Bool) : Nat -> Nat -> Int
 | 0, _ => -1
 | n + 1, k => if p k then k else GC p n (k + 1)
theorem UU {p : Nat -> Bool} {n k : Nat} (hk : k < n) (h : p k = true) : GC p (n - k) k = k := by
 obtain ⟨m, rfl⟩ : ∃ m, n = k + 1 + m := ⟨n - k - 1, by omega⟩
 rw [show k + 1 + m - k = m + 1 by omega]; simp [GC, h]
theorem Dz {p : Nat -> Bool} {n k : Nat} (hk : k < n) (h : p k = false) : GC p (n - k) k = GC p (n - (k + 1)) (k + 1) := by
 obtain ⟨m, rfl⟩ : ∃ m, n = k + 1 + m := ⟨n - k - 1, by omega⟩
 rw [show k + 1 + m - k = m + 1 by omega, show k + 1 + m - (k + 1) = m by omega]; simp [GC, h]
theorem YI {p : Nat -> Bool} {n k : Nat} (hk : n <= k) : GC p (n - k) k = -1 := by
 rw [show n - k = 0 by omega]; rfl
theorem CC : ((∀ {b : Bool} {p q : Prop}, (bif b then p else q) = ((b = true -> p) /\ (b = false -> q))) /\ (∀ (p : Prop), (p /\ p) = p) /\ (∀ (p : Prop), (True /\ p) = p) /\ (∀ (p : Prop), (p /\ True) = p) /\ (∀ (p : Prop), (True -> p) = p) /\ (∀ {p : Prop} [inst : Decidable p], (decide p = true) = p) /\ (∀ {p : Prop} {x : Decidable p}, decide p = false ↔ ¬p)) /\ (∀ (n : Nat), (n : Int).toNat = n) /\ (∀ (s : Span), HH (JU s) = s) /\ (∀ (s : Reach), ET (LG s) = s) /\ (∀ (s : Way), IF (IX s) = s) /\ (∀ (s : Step), VG (OR s) = s) /\ (∀ (s : Far), Re (Tn s) = s) /\ (∀ (n : Int), EW (CE n) = n) /\ (∀ (n : Nat), 0 + n = n) /\ (∀ (a : Int), 0 - a = -a) /\ (∀ {x y : Nat}, x.le y = (x <= y)) /\ (∀ (n : Nat), n.succ = n + 1) /\ (∀ {n m : Nat}, n + 1 <= m ↔ n < m) /\ (∀ (b : Bool), ((!b) = true) = (b = false)) /\ (∀ (b : Bool), ((!b) = false) = (b = true)) /\ (∀ {α : Type} (n : Nat) (f : Nat -> α), (AC n f).length = n) /\ (∀ (a b : Int), HH (.agg [CE a, CE b]) = ⟨a, b⟩) /\ (∀ (a b c d : Int), ET (.agg [CE a, CE b, CE c, CE d]) = ⟨a, b, ⟨c, d⟩⟩) /\ (∀ (a b c d e : Int), IF (.agg [CE a, CE b, CE c, CE d, CE e]) = ⟨a, b, ⟨c, d⟩, e⟩) /\ (∀ (a : Int) (b : Bool), VG (.agg [CE a, Cs b]) = ⟨a, b⟩) /\ (∀ (a b c : Int) (d : Bool), Re (.agg [CE a, CE b, CE c, Cs d]) = ⟨a, b, ⟨c, d⟩⟩) /\ (∀ {α : Type} [Inhabited α] (l : List α), (AC l.length λ i => gD l i) = l) := ⟨⟨Pd, and_self, true_and, and_true, true_implies, decide_eq_true_eq, decide_eq_false_iff_not⟩, Int.toNat_natCast, dSpan_eSpan, dReach_eReach, dWay_eWay, dStep_eStep, dFar_eFar, dInt_eInt, Nat.zero_add, Int.zero_sub, Nat.le_eq, Nat.succ_eq_add_one, Nat.add_one_le_iff, Bool.not_eq_true', Bool.not_eq_false', rng_length, Mv, Ld, Rk, Nn, Qv, MM⟩
end Go.Bal
namespace Go.Bal.DL
open Go.Sym Go
theorem a1 (n : Int) : EW (CE n) = n := rfl
theorem a2 (s : Span) : HH (JU s) = s := rfl
theorem a3 (s : Reach) : ET (LG s) = s := rfl
theorem a4 (s : Way) : IF (IX s) = s := rfl
theorem a5 (s : Step) : VG (OR s) = s := rfl
theorem b2 (a b : Int) : HH (.agg [CE a, CE b]) = Span.mk a b := rfl
theorem b3 (a b c d : Int) : ET (.agg [CE a, CE b, CE c, CE d]) = Reach.mk a b (Span.mk c d) := rfl
theorem b4 (a b c d e : Int) : IF (.agg [CE a, CE b, CE c, CE d, CE e]) = Way.mk a b (Span.mk c d) e := rfl
theorem c5 (a : Int) (b : Bool) : VG (.agg [.v (.int .i64 a), .v (.bool b)]) = Step.mk a b := rfl
theorem d1 (s : Span) : Span.mk s.lo s.hi = s := rfl
theorem d2 (s : Reach) : Reach.mk s.fr s.to s.sp = s := rfl
theorem d3 (s : Way) : Way.mk s.fr s.to s.sp s.now = s := rfl
theorem e1 (n : Nat) : Int.toNat (n : Int) = n := rfl
theorem e2 (n : Nat) : (Int.ofNat n).toNat = n := rfl
end Go.Bal.DL
