/- Package balance: data, and how they read. -/
import Derived.Test.YtonddbmhljelgaaSym9
import Derived.Test.YtonddbmhljelgaaProg
import Derived.KernelRfl
set_option linter.unusedVariables false
set_option linter.unusedSimpArgs false
namespace Go.Bal
open Go Go.Sym Go.Proofs
def gD {α : Type} [Inhabited α] (l : List α) (i : Nat) : α := l.getD i default
def rng {α : Type} (n : Nat) (f : Nat → α) : List α := (List.range n).map f
@[simp] theorem rng_length {α : Type} (n : Nat) (f : Nat → α) : (rng n f).length = n := by simp [rng]
theorem rng_get {α : Type} [Inhabited α] (n : Nat) (f : Nat → α) (i : Nat) (h : i < n) : gD (rng n f) i = f i := by
  simp [gD, rng, List.getD_eq_getElem?_getD, h]
theorem rng_getD {α : Type} [Inhabited α] (l : List α) : rng l.length (fun i => gD l i) = l := by
  apply List.ext_getElem
  · simp
  · intro i h1 h2
    simp [gD, rng, List.getD_eq_getElem?_getD, h2]
theorem gD_modify {α : Type} [Inhabited α] {l : List α} {k : Nat} {f : α → α} (h : k < l.length) (i : Nat) : gD (l.modify k f) i = if i = k then f (gD l k) else gD l i := by
  simp only [gD, List.getD_eq_getElem?_getD, List.getElem?_modify]
  by_cases hi : i = k
  · subst hi; simp [h]
  · rw [if_neg hi]; simp [Ne.symm hi]
theorem gD_append {α : Type} [Inhabited α] (l m : List α) (i : Nat) : gD (l ++ m) i = if i < l.length then gD l i else gD m (i - l.length) := by
  simp only [gD, List.getD_eq_getElem?_getD]
  split
  · rename_i h; rw [List.getElem?_append_left h]
  · rename_i h; rw [List.getElem?_append_right (by omega)]
theorem gD_replicate {α : Type} [Inhabited α] (n : Nat) (x : α) (i : Nat) : gD (List.replicate n x) i = if i < n then x else default := by
  simp only [gD, List.getD_eq_getElem?_getD, List.getElem?_replicate]
  split <;> rfl
theorem drop_gD {α : Type} [Inhabited α] {l : List α} {k : Nat} (h : k < l.length) : l.drop k = gD l k :: l.drop (k + 1) := by
  rw [List.drop_eq_getElem_cons h]; simp [gD, List.getD_eq_getElem?_getD, h]
theorem gD_ext {α : Type} [Inhabited α] {l m : List α} (hl : l.length = m.length) (h : ∀ i, i < l.length → gD l i = gD m i) : l = m := by
  apply List.ext_getElem hl
  intro i h1 h2
  have := h i h1
  simpa [gD, List.getD_eq_getElem?_getD, h1, h2] using this
structure Span where
  lo : Int
  hi : Int
  deriving Inhabited, DecidableEq
structure Reach where
  fr : Int
  to : Int
  sp : Span
  deriving Inhabited, DecidableEq
structure Net where
  nG : Nat
  g : Nat → Span
  nR : Nat
  r : Nat → Reach
  deriving Inhabited
structure Way where
  fr : Int
  to : Int
  sp : Span
  now : Int
  deriving Inhabited, DecidableEq
structure Step where
  way : Int
  back : Bool
  deriving Inhabited, DecidableEq
structure Far where
  cost : Int
  many : Int
  by' : Step
  deriving Inhabited, DecidableEq
def eInt (n : Int) : DVal := .v (.int .i64 n)
def eBool (b : Bool) : DVal := .v (.bool b)
def eSpan (s : Span) : DVal := .agg [eInt s.lo, eInt s.hi]
def eReach (r : Reach) : DVal := .agg [eInt r.fr, eInt r.to, eInt r.sp.lo, eInt r.sp.hi]
def eWay (w : Way) : DVal := .agg [eInt w.fr, eInt w.to, eInt w.sp.lo, eInt w.sp.hi, eInt w.now]
def eStep (s : Step) : DVal := .agg [eInt s.way, eBool s.back]
def eFar (f : Far) : DVal := .agg [eInt f.cost, eInt f.many, eInt f.by'.way, eBool f.by'.back]
def lst (k n : Nat) (g : Nat → DVal) : DVal := .list k n g false
def eSpans (n : Nat) (g : Nat → Span) : DVal := lst 2 n fun i => eSpan (g i)
def eReaches (n : Nat) (g : Nat → Reach) : DVal := lst 4 n fun i => eReach (g i)
def eNet (N : Net) : DVal := .agg [eSpans N.nG N.g, eReaches N.nR N.r]
def dInt : DVal → Int
  | .v (.int _ n) => n
  | _ => 0
def dBool : DVal → Bool
  | .v (.bool b) => b
  | _ => false
def dSpan : DVal → Span
  | .agg [a, b] => ⟨dInt a, dInt b⟩
  | _ => default
def dReach : DVal → Reach
  | .agg [a, b, c, d] => ⟨dInt a, dInt b, ⟨dInt c, dInt d⟩⟩
  | _ => default
def dWay : DVal → Way
  | .agg [a, b, c, d, e] => ⟨dInt a, dInt b, ⟨dInt c, dInt d⟩, dInt e⟩
  | _ => default
def dStep : DVal → Step
  | .agg [a, b] => ⟨dInt a, dBool b⟩
  | _ => default
def dFar : DVal → Far
  | .agg [a, b, c, d] => ⟨dInt a, dInt b, ⟨dInt c, dBool d⟩⟩
  | _ => default
def bodyOf (f : Func) : Code := f.body.getD .skip
@[simp] theorem dInt_eInt (n : Int) : dInt (eInt n) = n := rfl
@[simp] theorem dSpan_eSpan (s : Span) : dSpan (eSpan s) = s := rfl
@[simp] theorem dReach_eReach (s : Reach) : dReach (eReach s) = s := rfl
@[simp] theorem dWay_eWay (s : Way) : dWay (eWay s) = s := rfl
@[simp] theorem dStep_eStep (s : Step) : dStep (eStep s) = s := rfl
@[simp] theorem dFar_eFar (s : Far) : dFar (eFar s) = s := rfl
theorem dSpan_mk (a b : Int) : dSpan (.agg [eInt a, eInt b]) = Span.mk a b := rfl
theorem dReach_mk (a b c d : Int) : dReach (.agg [eInt a, eInt b, eInt c, eInt d]) = Reach.mk a b (Span.mk c d) := rfl
theorem dWay_mk (a b c d e : Int) : dWay (.agg [eInt a, eInt b, eInt c, eInt d, eInt e]) = Way.mk a b (Span.mk c d) e := rfl
theorem dStep_mk (a : Int) (b : Bool) : dStep (.agg [eInt a, eBool b]) = Step.mk a b := rfl
theorem dFar_mk (a b c : Int) (d : Bool) : dFar (.agg [eInt a, eInt b, eInt c, eBool d]) = Far.mk a b (Step.mk c d) := rfl
def ann (n : Nat) (l : List (FuncId × Sym.Spec)) : Ann := { base := fun id => 1000 * (id + 1), Γ := Sym.look l, E := [], n := n }
def okFn (A : Ann) (fn : Func) (xs : List AVal) (L : List (Nat × AObj)) (keep : List (Nat × HCell)) : Bool :=
  !(fn.name == "runtime.NumGoroutine") && fn.body.isSome && Nat.beq A.n fn.ntmps && Nat.ble xs.length fn.ntmps && A.E == L.map (·.1) && nodup (keep.map (·.1))
theorem mixed : Try.prog.follows .mixedOrders = true := by kernel_rfl
theorem noI {A : Ann} (h : A.iterIn = fun _ _ => none) (h2 : A.iter = fun _ => none) : IterOk Try.prog A := fun gs g x e => by
  rw [Ann.iterAt, h] at e; simp only [h2] at e; cases e
theorem fnt {A : Ann} {g : FuncId} {fn : Func} {xs : List AVal} {L : List (Nat × AObj)} {val : AVal} {keep : List (Nat × HCell)} {ren : List (Nat × Nat)} {fz : List Nat} (hf : Try.prog.funcs[g]? = some fn) (hok : okFn A fn xs L keep = true)
    (hΓ : GOk Try.prog A.Γ) (h : fnVC Try.prog A fn (bodyOf fn) xs (heapOf L) val keep ren fz) (hI : IterOk Try.prog A := by exact noI rfl rfl) : FnT Try.prog g xs (heapOf L) val keep := by
  simp only [okFn, Bool.and_eq_true, Bool.not_eq_true', beq_iff_eq, natBeq_iff, Nat.ble_eq, Option.isSome_iff_exists] at hok
  obtain ⟨⟨⟨⟨⟨h1, code, h2⟩, h3⟩, h4⟩, h5⟩, h6⟩ := hok
  exact FnT.of_vc hΓ hI mixed hf h1 h2 ⟨h3, h4⟩ h5 h6 (by unfold bodyOf at h; rw [h2] at h; exact h)
def isSpan : DVal → Prop
  | .agg [.v (.int .i64 _), .v (.int .i64 _)] => True
  | _ => False
def isReach : DVal → Prop
  | .agg [.v (.int .i64 _), .v (.int .i64 _), .v (.int .i64 _), .v (.int .i64 _)] => True
  | _ => False
theorem isSpan_eq {d : DVal} (h : isSpan d) : d = eSpan (dSpan d) := by
  unfold isSpan at h; split at h
  · rfl
  · exact h.elim
theorem isReach_eq {d : DVal} (h : isReach d) : d = eReach (dReach d) := by
  unfold isReach at h; split at h
  · rfl
  · exact h.elim
theorem lst_sub {k n : Nat} {g g' : Nat → DVal} {e : Bool} (h : ∀ i, i < n → g' i = g i) : dsub (lst k n g) (.list k n g' e) := by
  simp only [lst, dsub]
  exact ⟨.inl trivial, trivial, (fun h => by cases h), fun i hi => by rw [h i hi]; exact dsub_refl _⟩
theorem vsub_d {x y : DVal} (h : dsub x y) : vsubL (fun i => i) (fun i => (getO [] i).isSome) [.d x] [.d y] := ⟨h, trivial⟩
theorem w64 {n : Int} (h0 : -9223372036854775808 ≤ n) (h1 : n ≤ 9223372036854775807) : IntKind.i64.wrap n = n := by
  simp only [IntKind.wrap, IntKind.bits, IntKind.signed]
  rcases Int.lt_or_le n 0 with h | h
  · have : n % (2 ^ 64 : Int) = n + 2 ^ 64 := by
      rw [← Int.add_emod_right]; exact Int.emod_eq_of_lt (by omega) (by omega)
    simp only [this]
    rw [if_pos (by simp; omega)]; omega
  · have : n % (2 ^ 64 : Int) = n := Int.emod_eq_of_lt h (by omega)
    simp only [this]
    rw [if_neg (by simp; omega)]
theorem wsucc {a : Nat} (h : a < 9223372036854775807) : IntKind.i64.wrap ((a : Int) + 1) = ((a + 1 : Nat) : Int) := by
  rw [w64 (by omega) (by omega)]; rfl
def idx (p : Nat → Bool) : Nat → Nat → Int
  | 0, _ => -1
  | n + 1, k => if p k then k else idx p n (k + 1)
theorem idx_stop {p : Nat → Bool} {n k : Nat} (hk : k < n) (h : p k = true) : idx p (n - k) k = k := by
  obtain ⟨m, rfl⟩ : ∃ m, n = k + 1 + m := ⟨n - k - 1, by omega⟩
  rw [show k + 1 + m - k = m + 1 by omega]; simp [idx, h]
theorem idx_go {p : Nat → Bool} {n k : Nat} (hk : k < n) (h : p k = false) : idx p (n - k) k = idx p (n - (k + 1)) (k + 1) := by
  obtain ⟨m, rfl⟩ : ∃ m, n = k + 1 + m := ⟨n - k - 1, by omega⟩
  rw [show k + 1 + m - k = m + 1 by omega, show k + 1 + m - (k + 1) = m by omega]; simp [idx, h]
theorem idx_end {p : Nat → Bool} {n k : Nat} (hk : n ≤ k) : idx p (n - k) k = -1 := by
  rw [show n - k = 0 by omega]; rfl
end Go.Bal
namespace Go.Bal.DL
open Go.Sym Go
theorem a1 (n : Int) : dInt (eInt n) = n := rfl
theorem a2 (s : Span) : dSpan (eSpan s) = s := rfl
theorem a3 (s : Reach) : dReach (eReach s) = s := rfl
theorem a4 (s : Way) : dWay (eWay s) = s := rfl
theorem a5 (s : Step) : dStep (eStep s) = s := rfl
theorem b2 (a b : Int) : dSpan (.agg [eInt a, eInt b]) = Span.mk a b := rfl
theorem b3 (a b c d : Int) : dReach (.agg [eInt a, eInt b, eInt c, eInt d]) = Reach.mk a b (Span.mk c d) := rfl
theorem b4 (a b c d e : Int) : dWay (.agg [eInt a, eInt b, eInt c, eInt d, eInt e]) = Way.mk a b (Span.mk c d) e := rfl
theorem d1 (s : Span) : Span.mk s.lo s.hi = s := rfl
theorem d2 (s : Reach) : Reach.mk s.fr s.to s.sp = s := rfl
theorem d3 (s : Way) : Way.mk s.fr s.to s.sp s.now = s := rfl
theorem e1 (n : Nat) : Int.toNat (n : Int) = n := rfl
theorem e2 (n : Nat) : (Int.ofNat n).toNat = n := rfl
end Go.Bal.DL
