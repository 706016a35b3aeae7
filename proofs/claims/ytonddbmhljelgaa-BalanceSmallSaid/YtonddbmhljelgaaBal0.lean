/- Package balance: data, and how they read. -/
import Derived.Test.YtonddbmhljelgaaSym9
import Derived.Test.YtonddbmhljelgaaProg
import Derived.KernelRfl
set_option linter.unusedVariables false
set_option linter.unusedSimpArgs false
namespace Go.Bal
open Go Go.Sym Go.Proofs
def gD {α : Type} [Inhabited α] (l : List α) (i : Nat) : α := l.getD i default
def NO {α : Type} (n : Nat) (f : Nat -> α) : List α := (List.range n).map f
@[simp] theorem rng_length {α : Type} (n : Nat) (f : Nat -> α) : (NO n f).length = n := by simp [NO]
theorem CO {α : Type} [Inhabited α] (n : Nat) (f : Nat -> α) (i : Nat) (h : i < n) : gD (NO n f) i = f i := by
 simp [gD, NO, List.getD_eq_getElem?_getD, h]
theorem Sq {α : Type} [Inhabited α] (l : List α) : NO l.length (λ i => gD l i) = l := by
 apply List.ext_getElem
 ·simp
 ·intro i h1 h2
  simp [gD, NO, List.getD_eq_getElem?_getD, h2]
theorem BD {α : Type} [Inhabited α] {l : List α} {k : Nat} {f : α -> α} (h : k < l.length) (i : Nat) : gD (l.modify k f) i = if i = k then f (gD l k) else gD l i := by
 simp only [gD, List.getD_eq_getElem?_getD, List.getElem?_modify]
 by_cases hi : i = k
 ·subst hi; simp [h]
 ·rw [if_neg hi]; simp [Ne.symm hi]
theorem BIP {α : Type} [Inhabited α] {l : List α} {k : Nat} {x : α} (h : k < l.length) (i : Nat) : gD (l.set k x) i = if i = k then x else gD l i := by
 simp only [gD, List.getD_eq_getElem?_getD, List.getElem?_set]
 by_cases hi : i = k
 ·subst hi; simp [h]
 ·rw [if_neg (Ne.symm hi), if_neg hi]
theorem CP {α : Type} [Inhabited α] (l m : List α) (i : Nat) : gD (l ++ m) i = if i < l.length then gD l i else gD m (i - l.length) := by
 simp only [gD, List.getD_eq_getElem?_getD]
 split
 ·rename_i h; rw [List.getElem?_append_left h]
 ·rename_i h; rw [List.getElem?_append_right (by omega)]
theorem GN {α : Type} [Inhabited α] (n : Nat) (x : α) (i : Nat) : gD (List.replicate n x) i = if i < n then x else default := by
 simp only [gD, List.getD_eq_getElem?_getD, List.getElem?_replicate]
 split <;> rfl
theorem JP {α : Type} [Inhabited α] {l : List α} {k : Nat} (h : k < l.length) : l.drop k = gD l k :: l.drop (k + 1) := by
 rw [List.drop_eq_getElem_cons h]; simp [gD, List.getD_eq_getElem?_getD, h]
theorem Jc {α : Type} [Inhabited α] {l m : List α} (hl : l.length = m.length) (h : ∀ i, i < l.length -> gD l i = gD m i) : l = m := by
 apply List.ext_getElem hl
 intro i h1 h2
 have := h i h1
 simpa [gD, List.getD_eq_getElem?_getD, h1, h2] using this
structure Span where
 lo : Int
 hi : Int
 deriving Inhabited, DecidableEq
structure Reach where
 fr : Int
 to : Int
 sp : Span
 deriving Inhabited, DecidableEq
structure Net where
 nG : Nat
 g : Nat -> Span
 nR : Nat
 r : Nat -> Reach
 deriving Inhabited
structure Way where
 fr : Int
 to : Int
 sp : Span
 now : Int
 deriving Inhabited, DecidableEq
structure Step where
 way : Int
 back : Bool
 deriving Inhabited, DecidableEq
structure Far where
 cost : Int
 many : Int
 by' : Step
 deriving Inhabited, DecidableEq
def FT (n : Int) : DVal := .v (.int .i64 n)
def xP (b : Bool) : DVal := .v (.bool b)
def OW (s : Span) : DVal := .agg [FT s.lo, FT s.hi]
def Ms (r : Reach) : DVal := .agg [FT r.fr, FT r.to, FT r.sp.lo, FT r.sp.hi]
def eWay (w : Way) : DVal := .agg [FT w.fr, FT w.to, FT w.sp.lo, FT w.sp.hi, FT w.now]
def hJ (s : Step) : DVal := .agg [FT s.way, xP s.back]
def eFar (f : Far) : DVal := .agg [FT f.cost, FT f.many, FT f.by'.way, xP f.by'.back]
def lst (k n : Nat) (g : Nat -> DVal) : DVal := .list k n g false
def ADT (n : Nat) (g : Nat -> Span) : DVal := lst 2 n λ i => OW (g i)
def AHH (n : Nat) (g : Nat -> Reach) : DVal := lst 4 n λ i => Ms (g i)
def eNet (N : Net) : DVal := .agg [ADT N.nG N.g, AHH N.nR N.r]
def OO : DVal -> Int
 | .v (.int _ n) => n
 | _ => 0
def BFN : DVal -> Bool
 | .v (.bool b) => b
 | _ => false
def ZX : DVal -> Span
 | .agg [a, b] => ⟨OO a, OO b⟩
 | _ => default
def RN : DVal -> Reach
 | .agg [a, b, c, d] => ⟨OO a, OO b, ⟨OO c, OO d⟩⟩
 | _ => default
def dWay : DVal -> Way
 | .agg [a, b, c, d, e] => ⟨OO a, OO b, ⟨OO c, OO d⟩, OO e⟩
 | _ => default
def qV : DVal -> Step
 | .agg [a, b] => ⟨OO a, BFN b⟩
 | _ => default
def dFar : DVal -> Far
 | .agg [a, b, c, d] => ⟨OO a, OO b, ⟨OO c, BFN d⟩⟩
 | _ => default
def AF (f : Func) : Code := f.body.getD .skip
@[simp] theorem dInt_eInt (n : Int) : OO (FT n) = n := rfl
@[simp] theorem dSpan_eSpan (s : Span) : ZX (OW s) = s := rfl
@[simp] theorem dReach_eReach (s : Reach) : RN (Ms s) = s := rfl
@[simp] theorem dWay_eWay (s : Way) : dWay (eWay s) = s := rfl
@[simp] theorem dStep_eStep (s : Step) : qV (hJ s) = s := rfl
@[simp] theorem dFar_eFar (s : Far) : dFar (eFar s) = s := rfl
theorem BJD (a b : Int) : ZX (.agg [FT a, FT b]) = Span.mk a b := rfl
theorem BCT (a b c d : Int) : RN (.agg [FT a, FT b, FT c, FT d]) = Reach.mk a b (Span.mk c d) := rfl
theorem BKG (a b c d e : Int) : dWay (.agg [FT a, FT b, FT c, FT d, FT e]) = Way.mk a b (Span.mk c d) e := rfl
theorem BJR (a : Int) (b : Bool) : qV (.agg [FT a, xP b]) = Step.mk a b := rfl
theorem BKW (a b c : Int) (d : Bool) : dFar (.agg [FT a, FT b, FT c, xP d]) = Far.mk a b (Step.mk c d) := rfl
def ann (n : Nat) (l : List (FuncId × Sym.Spec)) : Ann := { base := λ id => 1000 * (id + 1), Γ := Sym.look l, E := [], n := n }
def okFn (A : Ann) (fn : Func) (xs : List AVal) (L : List (Nat × AObj)) (keep : List (Nat × HCell)) : Bool :=
 !(fn.name == "runtime.NumGoroutine") && fn.body.isSome && Nat.beq A.n fn.ntmps && Nat.ble xs.length fn.ntmps && A.E == L.map (·.1) && nodup (keep.map (·.1))
theorem APY : Try.prog.follows .mixedOrders = true := by kernel_rfl
theorem WR {A : Ann} (h : A.iterIn = λ _ _ => none) (h2 : A.iter = λ _ => none) : bK Try.prog A := λ gs g x e => by
 rw [Ann.iterAt, h] at e; simp only [h2] at e; cases e
theorem Pb {A : Ann} {g : FuncId} {fn : Func} {xs : List AVal} {L : List (Nat × AObj)} {val : AVal} {keep : List (Nat × HCell)} {ren : List (Nat × Nat)} {fz : List Nat} (hf : Try.prog.funcs[g]? = some fn) (hok : okFn A fn xs L keep = true)
  (hΓ : GOk Try.prog A.Γ) (h : BN Try.prog A fn (AF fn) xs (AD L) val keep ren fz) (hI : bK Try.prog A := by exact WR rfl rfl) : FnT Try.prog g xs (AD L) val keep := by
 simp only [okFn, Bool.and_eq_true, Bool.not_eq_true', beq_iff_eq, GV, Nat.ble_eq, Option.isSome_iff_exists] at hok
 obtain ⟨⟨⟨⟨⟨h1, code, h2⟩, h3⟩, h4⟩, h5⟩, h6⟩ := hok
 exact FnT.of_vc hΓ hI APY hf h1 h2 ⟨h3, h4⟩ h5 h6 (by unfold AF at h; rw [h2] at h; exact h)
def AFF : DVal -> Prop
 | .agg [.v (.int .i64 _), .v (.int .i64 _)] => True
 | _ => False
def S4 : DVal -> Prop
 | .agg [.v (.int .i64 _), .v (.int .i64 _), .v (.int .i64 _), .v (.int .i64 _)] => True
 | _ => False
theorem AIM {d : DVal} (h : AFF d) : d = OW (ZX d) := by
 unfold AFF at h; split at h
 ·rfl
 ·exact h.elim
theorem AWT {d : DVal} (h : S4 d) : d = Ms (RN d) := by
 unfold S4 at h; split at h
 ·rfl
 ·exact h.elim
theorem AOX {k n : Nat} {g g' : Nat -> DVal} {e : Bool} (h : ∀ i, i < n -> g' i = g i) : IH (lst k n g) (.list k n g' e) := by
 simp only [lst, IH]
 exact ⟨.inl trivial, trivial, (λ h => by cases h), λ i hi => by rw [h i hi]; exact Jj _⟩
theorem BMY {x y : DVal} (h : IH x y) : Lb (λ i => i) (λ i => (JG [] i).isSome) [.d x] [.d y] := ⟨h, trivial⟩
theorem Gp {n : Int} (h0 : -9223372036854775808 <= n) (h1 : n <= 9223372036854775807) : IntKind.i64.wrap n = n := by
 simp only [IntKind.wrap, IntKind.bits, IntKind.signed]
 rcases Int.lt_or_le n 0 with h | h
 ·have : n % (2 ^ 64 : Int) = n + 2 ^ 64 := by
   rw [<- Int.add_emod_right]; exact Int.emod_eq_of_lt (by omega) (by omega)
  simp only [this]
  rw [if_pos (by simp; omega)]; omega
 ·have : n % (2 ^ 64 : Int) = n := Int.emod_eq_of_lt h (by omega)
  simp only [this]
  rw [if_neg (by simp; omega)]
theorem AL {a : Nat} (h : a < 9223372036854775807) : IntKind.i64.wrap ((a : Int) + 1) = ((a + 1 : Nat) : Int) := by
 rw [Gp (by omega) (by omega)]; rfl
def gO (p : Nat -> Bool) : Nat -> Nat -> Int
 | 0, _ => -1
 | n + 1, k => if p k then k else gO p n (k + 1)
theorem lH {p : Nat -> Bool} {n k : Nat} (hk : k < n) (h : p k = true) : gO p (n - k) k = k := by
 obtain ⟨m, rfl⟩ : ∃ m, n = k + 1 + m := ⟨n - k - 1, by omega⟩
 rw [show k + 1 + m - k = m + 1 by omega]; simp [gO, h]
theorem ADE {p : Nat -> Bool} {n k : Nat} (hk : k < n) (h : p k = false) : gO p (n - k) k = gO p (n - (k + 1)) (k + 1) := by
 obtain ⟨m, rfl⟩ : ∃ m, n = k + 1 + m := ⟨n - k - 1, by omega⟩
 rw [show k + 1 + m - k = m + 1 by omega, show k + 1 + m - (k + 1) = m by omega]; simp [gO, h]
theorem zU {p : Nat -> Bool} {n k : Nat} (hk : n <= k) : gO p (n - k) k = -1 := by
 rw [show n - k = 0 by omega]; rfl
theorem CC : ((∀ {b : Bool} {p q : Prop}, (bif b then p else q) = ((b = true -> p) /\ (b = false -> q))) /\ (∀ (p : Prop), (p /\ p) = p) /\ (∀ (p : Prop), (True /\ p) = p) /\ (∀ (p : Prop), (p /\ True) = p) /\ (∀ (p : Prop), (True -> p) = p) /\ (∀ {p : Prop} [inst : Decidable p], (decide p = true) = p) /\ (∀ {p : Prop} {x : Decidable p}, decide p = false ↔ ¬p)) /\ (∀ (n : Nat), (n : Int).toNat = n) /\ (∀ (s : Span), ZX (OW s) = s) /\ (∀ (s : Reach), RN (Ms s) = s) /\ (∀ (s : Way), dWay (eWay s) = s) /\ (∀ (s : Step), qV (hJ s) = s) /\ (∀ (s : Far), dFar (eFar s) = s) /\ (∀ (n : Int), OO (FT n) = n) /\ (∀ (n : Nat), 0 + n = n) /\ (∀ (a : Int), 0 - a = -a) /\ (∀ {x y : Nat}, x.le y = (x <= y)) /\ (∀ (n : Nat), n.succ = n + 1) /\ (∀ {n m : Nat}, n + 1 <= m ↔ n < m) /\ (∀ (b : Bool), ((!b) = true) = (b = false)) /\ (∀ (b : Bool), ((!b) = false) = (b = true)) /\ (∀ {α : Type} (n : Nat) (f : Nat -> α), (NO n f).length = n) /\ (∀ (a b : Int), ZX (.agg [FT a, FT b]) = ⟨a, b⟩) /\ (∀ (a b c d : Int), RN (.agg [FT a, FT b, FT c, FT d]) = ⟨a, b, ⟨c, d⟩⟩) /\ (∀ (a b c d e : Int), dWay (.agg [FT a, FT b, FT c, FT d, FT e]) = ⟨a, b, ⟨c, d⟩, e⟩) /\ (∀ (a : Int) (b : Bool), qV (.agg [FT a, xP b]) = ⟨a, b⟩) /\ (∀ (a b c : Int) (d : Bool), dFar (.agg [FT a, FT b, FT c, xP d]) = ⟨a, b, ⟨c, d⟩⟩) /\ (∀ {α : Type} [Inhabited α] (l : List α), (NO l.length λ i => gD l i) = l) := ⟨⟨BAO, and_self, true_and, and_true, true_implies, decide_eq_true_eq, decide_eq_false_iff_not⟩, Int.toNat_natCast, dSpan_eSpan, dReach_eReach, dWay_eWay, dStep_eStep, dFar_eFar, dInt_eInt, Nat.zero_add, Int.zero_sub, Nat.le_eq, Nat.succ_eq_add_one, Nat.add_one_le_iff, Bool.not_eq_true', Bool.not_eq_false', rng_length, BJD, BCT, BKG, BJR, BKW, Sq⟩
end Go.Bal
namespace Go.Bal.DL
open Go.Sym Go
theorem a1 (n : Int) : OO (FT n) = n := rfl
theorem a2 (s : Span) : ZX (OW s) = s := rfl
theorem a3 (s : Reach) : RN (Ms s) = s := rfl
theorem a4 (s : Way) : dWay (eWay s) = s := rfl
theorem a5 (s : Step) : qV (hJ s) = s := rfl
theorem b2 (a b : Int) : ZX (.agg [FT a, FT b]) = Span.mk a b := rfl
theorem b3 (a b c d : Int) : RN (.agg [FT a, FT b, FT c, FT d]) = Reach.mk a b (Span.mk c d) := rfl
theorem b4 (a b c d e : Int) : dWay (.agg [FT a, FT b, FT c, FT d, FT e]) = Way.mk a b (Span.mk c d) e := rfl
theorem b5 (a : Int) (b : Bool) : qV (.agg [FT a, xP b]) = Step.mk a b := rfl
theorem b6 (a b c : Int) (d : Bool) : dFar (.agg [FT a, FT b, FT c, xP d]) = Far.mk a b (Step.mk c d) := rfl
theorem c5 (a : Int) (b : Bool) : qV (.agg [.v (.int .i64 a), .v (.bool b)]) = Step.mk a b := rfl
theorem d1 (s : Span) : Span.mk s.lo s.hi = s := rfl
theorem d2 (s : Reach) : Reach.mk s.fr s.to s.sp = s := rfl
theorem d3 (s : Way) : Way.mk s.fr s.to s.sp s.now = s := rfl
theorem e1 (n : Nat) : Int.toNat (n : Int) = n := rfl
theorem e2 (n : Nat) : (Int.ofNat n).toNat = n := rfl
end Go.Bal.DL

namespace Go.Bal
open Go
abbrev wr (n : Int) : Int := IntKind.i64.wrap n
structure Desk where
 all : List Way
 out : Nat
 nR : Nat
 deriving Inhabited, DecidableEq
def EW (l : List Way) (i : Int) : Way := gD l i.toNat
structure Desk.ok (d : Desk) : Prop where
 out : d.out <= 8
 len : d.all.length <= 23
 cut : d.nR + d.out <= d.all.length
 ends : ∀ i, i < d.all.length -> (0 <= (gD d.all i).fr /\ (gD d.all i).fr < d.out + 2) /\ 0 <= (gD d.all i).to /\ (gD d.all i).to < d.out + 2
def Yd (x : Int) (s : Span) : Int := max (max 0 (wr (s.lo - x))) (wr (x - s.hi))
def Ak : Int -> List Int -> Int
 | a, [] => a
 | a, x :: l => Ak (wr (a + x)) l
def BO (w : Way) (back : Bool) : Int × Int :=
 let now := if back then wr (-w.now) else w.now
 let least := if back then wr (-w.sp.hi) else w.sp.lo
 let most := if back then wr (-w.sp.lo) else w.sp.hi
 if now < least then (-1, wr (least - now)) else if now < most then (0, wr (most - now)) else (1, 10000000000)
def KF (d : Desk) (s : Step) : Int := if s.back then (EW d.all s.way).fr else (EW d.all s.way).to
abbrev Map := List (Option Far)
def Map.at (m : Map) (z : Int) : Option Far := if 0 <= z then (m[z.toNat]?).join else none
def Map.far (m : Map) (z : Int) : Far := (m.at z).getD ⟨0, 0, ⟨0, false⟩⟩
def better (next was : Far) : Bool := next.cost < was.cost || next.cost == was.cost && next.many < was.many
structure RT where
 m : Map
 ag : Bool
 st : Int -> Int
 deriving Inhabited
def LS (d : Desk) (counts : Step -> Bool) (here : Far) (r : RT) (s : Step) : RT :=
 if counts s then
  let next : Far := ⟨wr (here.cost + (BO (EW d.all s.way) s.back).1), wr (here.many + 1), s⟩
  let t := KF d s
  match r.m.at t with
  | none => ⟨r.m.set t.toNat (some next), true, Sym.stUp (λ z => (r.m.at z).isSome) r.st t⟩
  | some was => if better next was then ⟨r.m.set t.toNat (some next), true, Sym.stUp (λ z => (r.m.at z).isSome) r.st t⟩ else r
 else r
def HK (d : Desk) (counts : Step -> Bool) (here : Far) (place : Int) : List Way -> Nat -> RT -> RT
 | [], _, r => r
 | w :: l, i, r =>
  let r := if w.fr = place then LS d counts here r ⟨i, false⟩ else r
  let r := if w.to = place then LS d counts here r ⟨i, true⟩ else r
  HK d counts here place l (i + 1) r
def BK (d : Desk) (counts : Step -> Bool) : Nat -> Nat -> RT -> RT
 | 0, _, r => r
 | n + 1, p, r => BK d counts n (p + 1) (match r.m.at p with
  | none => r
  | some here => HK d counts here p d.all 0 r)
def V2 (d : Desk) (counts : Step -> Bool) : Nat -> RT -> Option RT
 | 0, _ => none
 | k + 1, r =>
  let r' := BK d counts (d.out + 2) 0 { r with ag := false }
  if r'.ag then V2 d counts k r' else some r'
def fuel : Nat := 1000000000000000000
def TA (d : Desk) (fr : Int) : RT := ⟨(List.replicate (d.out + 2) none).set fr.toNat (some ⟨0, 0, ⟨0, false⟩⟩), true, λ z => if z = fr then 0 else 1⟩
def NP (d : Desk) (counts : Step -> Bool) (fr : Int) : Option RT := V2 d counts fuel (TA d fr)
def SZ (d : Desk) (m : Map) (fr : Int) : Nat -> Int -> Option (List Step)
 | 0, _ => none
 | k + 1, at' => if at' = fr then some [] else
  let s := (m.far at').by'
  match SZ d m fr k (KF d ⟨s.way, !s.back⟩) with
  | none => none
  | some l => some (s :: l)
def JS (d : Desk) : Int -> List Step -> Int
 | a, [] => a
 | a, s :: l => JS d (min a (BO (EW d.all s.way) s.back).2) l
def Ae (most : Int) (all : List Way) (s : Step) : List Way :=
 all.modify s.way.toNat λ w => { w with now := if s.back then wr (w.now - most) else wr (w.now + most) }
def AQ (most : Int) (all : List Way) : List Step -> List Way
 | [] => all
 | s :: l => AQ most (Ae most all s) l
def Nn (d : Desk) (fr to : Int) (m : Map) (most : Int) : Option (Desk × Int) := match SZ d m fr fuel to with
 | none => none
 | some l => if l.all (λ s => decide (0 <= s.way) && decide (s.way < d.all.length)) && decide (l.length <= 1000) then some (⟨AQ (JS d most l) d.all l, d.out, d.nR⟩, JS d most l) else none
def Zs : List Int -> List Way -> List Int
 | l, [] => l
 | l, w :: r => Zs ((l.modify w.fr.toNat λ x => wr (x - w.now)).modify w.to.toNat λ x => wr (x + w.now)) r
def EI (d : Desk) : List Int := Zs (List.replicate 10 0) d.all
def ID (l : List Int) : Int := gO (λ i => decide (0 < gD l i)) 10 0
def UH (m : Map) (fr : Int) : List Int -> Nat -> Int × Far -> Int × Far
 | [], _, st => st
 | x :: l, p, st => UH m fr l (p + 1) (match m.at p with
  | none => st
  | some f => if 0 <= x then st else if st.1 = fr || better f st.2 then (p, f) else st)
def any : Step -> Bool := λ _ => true
def XO (d : Desk) (over : List Int) : Option Desk :=
 let fr := ID over
 if fr < 0 ∨ d.out + 2 <= fr then none else
 match NP d any fr with
 | none => none
 | some r =>
  let to := (UH r.m fr over 0 (fr, ⟨0, 0, ⟨0, false⟩⟩)).1
  match Nn d fr to r.m (min (gD over fr.toNat) (wr (-(gD over to.toNat)))) with
  | none => none
  | some (d, _) => some d
def PI : Nat -> Desk -> Option Desk
 | 0, _ => none
 | k + 1, d => if EI d = List.replicate 10 0 then some d else match XO d (EI d) with
  | none => none
  | some d => PI k d
def MJ (d : Desk) : Option Desk := PI fuel d
structure NetL where
 g : List Span
 r : List Reach
 deriving Inhabited, DecidableEq
structure TruthL where
 f : List Int
 t : List Int
 deriving Inhabited, DecidableEq
def CD (N : NetL) : List Way :=
 (N.r.map λ r => (⟨r.fr, r.to, r.sp, 0⟩ : Way)) ++ (List.range N.g.length).map λ (i : Nat) => (⟨N.g.length, i, gD N.g i, 0⟩ : Way)
def AO (N : NetL) : Desk := ⟨(CD N).map λ w => { w with now := min (max 0 w.sp.lo) w.sp.hi }, N.g.length, N.r.length⟩
def AW (d : Desk) : TruthL := ⟨(List.range d.nR).map λ i => (gD d.all i).now, (List.range d.out).map λ i => (gD d.all (d.nR + i)).now⟩
def Ha (N : NetL) (t : TruthL) : List Int :=
 ((List.range N.r.length).map λ i => Yd (gD t.f i) (gD N.r i).sp) ++ (List.range N.g.length).map λ i => Yd (gD t.t i) (gD N.g i)
def VV (N : NetL) (t : TruthL) : Int := Ak 0 (Ha N t)
def BH (N : NetL) : Option (Desk × Int) := match MJ (AO N) with
 | none => none
 | some d => some (d, VV N (AW d))
def EM (d : Desk) (at' : Int) : Step -> Bool := λ s => (BO (EW d.all s.way) s.back).1 = 0 && s ≠ ⟨at', true⟩ && s ≠ ⟨at', false⟩
def CM (all : List Way) (at' : Int) (up : Bool) (n : Int) : List Way :=
 all.modify at'.toNat λ w => { w with now := if up then wr (w.now + n) else wr (w.now - n) }
def YP (at' : Int) (up : Bool) (most : Int) : Nat -> Desk -> Int -> Option (Desk × Int)
 | 0, _, _ => none
 | k + 1, d, total => if total < most then
   let pr := BO (EW d.all at') (!up)
   let fr := KF d ⟨at', !up⟩
   let to := KF d ⟨at', up⟩
   match NP d (EM d at') fr with
   | none => none
   | some r => if (r.m.at to).isNone || 0 < pr.1 then some (d, total) else
    match Nn d fr to r.m (min pr.2 (wr (most - total))) with
    | none => none
    | some (d, n) => YP at' up most k ⟨CM d.all at' up n, d.out, d.nR⟩ (wr (total + n))
  else some (d, total)
def YG (d : Desk) (at' : Int) (up : Bool) (most : Int) : Option (Desk × Int) := YP at' up most fuel d 0
def JM (d : Desk) (at' : Int) : Option Span := match YG d at' false 100000000, YG d at' true 100000000 with
 | some (l, _), some (h, _) => some ⟨(EW l.all at').now, (EW h.all at').now⟩
 | _, _ => none
end Go.Bal
namespace Go.Bal.DL
theorem d6 (d : Desk) : Desk.mk d.all d.out d.nR = d := rfl
theorem d7 (n : NetL) : NetL.mk n.g n.r = n := rfl
theorem d8 (n : TruthL) : TruthL.mk n.f n.t = n := rfl
end Go.Bal.DL
