/- Package balance: data, and how they read. -/
import Derived.Test.YtonddbmhljelgaaSym9
import Derived.Test.YtonddbmhljelgaaProg
import Derived.KernelRfl
set_option linter.unusedVariables false
set_option linter.unusedSimpArgs false
namespace Go.Bal
open Go Go.Sym Go.Proofs
def gD {α : Type} [Inhabited α] (l : List α) (i : Nat) : α := l.getD i default
def rng {α : Type} (n : Nat) (f : Nat → α) : List α := (List.range n).map f
@[simp] theorem rng_length {α : Type} (n : Nat) (f : Nat → α) : (rng n f).length = n := by simp [rng]
theorem rng_get {α : Type} [Inhabited α] (n : Nat) (f : Nat → α) (i : Nat) (h : i < n) : gD (rng n f) i = f i := by
  simp [gD, rng, List.getD_eq_getElem?_getD, h]
theorem rng_getD {α : Type} [Inhabited α] (l : List α) : rng l.length (fun i => gD l i) = l := by
  apply List.ext_getElem
  · simp
  · intro i h1 h2
    simp [gD, rng, List.getD_eq_getElem?_getD, h2]
theorem gD_modify {α : Type} [Inhabited α] {l : List α} {k : Nat} {f : α → α} (h : k < l.length) (i : Nat) : gD (l.modify k f) i = if i = k then f (gD l k) else gD l i := by
  simp only [gD, List.getD_eq_getElem?_getD, List.getElem?_modify]
  by_cases hi : i = k
  · subst hi; simp [h]
  · rw [if_neg hi]; simp [Ne.symm hi]
theorem gD_append {α : Type} [Inhabited α] (l m : List α) (i : Nat) : gD (l ++ m) i = if i < l.length then gD l i else gD m (i - l.length) := by
  simp only [gD, List.getD_eq_getElem?_getD]
  split
  · rename_i h; rw [List.getElem?_append_left h]
  · rename_i h; rw [List.getElem?_append_right (by omega)]
theorem gD_replicate {α : Type} [Inhabited α] (n : Nat) (x : α) (i : Nat) : gD (List.replicate n x) i = if i < n then x else default := by
  simp only [gD, List.getD_eq_getElem?_getD, List.getElem?_replicate]
  split <;> rfl
theorem drop_gD {α : Type} [Inhabited α] {l : List α} {k : Nat} (h : k < l.length) : l.drop k = gD l k :: l.drop (k + 1) := by
  rw [List.drop_eq_getElem_cons h]; simp [gD, List.getD_eq_getElem?_getD, h]
theorem gD_ext {α : Type} [Inhabited α] {l m : List α} (hl : l.length = m.length) (h : ∀ i, i < l.length → gD l i = gD m i) : l = m := by
  apply List.ext_getElem hl
  intro i h1 h2
  have := h i h1
  simpa [gD, List.getD_eq_getElem?_getD, h1, h2] using this
structure Span where
  lo : Int
  hi : Int
  deriving Inhabited, DecidableEq
structure Reach where
  fr : Int
  to : Int
  sp : Span
  deriving Inhabited, DecidableEq
structure Net where
  nG : Nat
  g : Nat → Span
  nR : Nat
  r : Nat → Reach
  deriving Inhabited
structure Way where
  fr : Int
  to : Int
  sp : Span
  now : Int
  deriving Inhabited, DecidableEq
structure Step where
  way : Int
  back : Bool
  deriving Inhabited, DecidableEq
structure Far where
  cost : Int
  many : Int
  by' : Step
  deriving Inhabited, DecidableEq
def eInt (n : Int) : DVal := .v (.int .i64 n)
def eBool (b : Bool) : DVal := .v (.bool b)
def eSpan (s : Span) : DVal := .agg [eInt s.lo, eInt s.hi]
def eReach (r : Reach) : DVal := .agg [eInt r.fr, eInt r.to, eInt r.sp.lo, eInt r.sp.hi]
def eWay (w : Way) : DVal := .agg [eInt w.fr, eInt w.to, eInt w.sp.lo, eInt w.sp.hi, eInt w.now]
def eStep (s : Step) : DVal := .agg [eInt s.way, eBool s.back]
def eFar (f : Far) : DVal := .agg [eInt f.cost, eInt f.many, eInt f.by'.way, eBool f.by'.back]
def lst (k n : Nat) (g : Nat → DVal) : DVal := .list k n g false
def eSpans (n : Nat) (g : Nat → Span) : DVal := lst 2 n fun i => eSpan (g i)
def eReaches (n : Nat) (g : Nat → Reach) : DVal := lst 4 n fun i => eReach (g i)
def eNet (N : Net) : DVal := .agg [eSpans N.nG N.g, eReaches N.nR N.r]
def dInt : DVal → Int
  | .v (.int _ n) => n
  | _ => 0
def dBool : DVal → Bool
  | .v (.bool b) => b
  | _ => false
def dSpan : DVal → Span
  | .agg [a, b] => ⟨dInt a, dInt b⟩
  | _ => default
def dReach : DVal → Reach
  | .agg [a, b, c, d] => ⟨dInt a, dInt b, ⟨dInt c, dInt d⟩⟩
  | _ => default
def dWay : DVal → Way
  | .agg [a, b, c, d, e] => ⟨dInt a, dInt b, ⟨dInt c, dInt d⟩, dInt e⟩
  | _ => default
def dStep : DVal → Step
  | .agg [a, b] => ⟨dInt a, dBool b⟩
  | _ => default
def dFar : DVal → Far
  | .agg [a, b, c, d] => ⟨dInt a, dInt b, ⟨dInt c, dBool d⟩⟩
  | _ => default
def bodyOf (f : Func) : Code := f.body.getD .skip
@[simp] theorem dInt_eInt (n : Int) : dInt (eInt n) = n := rfl
@[simp] theorem dSpan_eSpan (s : Span) : dSpan (eSpan s) = s := rfl
@[simp] theorem dReach_eReach (s : Reach) : dReach (eReach s) = s := rfl
@[simp] theorem dWay_eWay (s : Way) : dWay (eWay s) = s := rfl
@[simp] theorem dStep_eStep (s : Step) : dStep (eStep s) = s := rfl
@[simp] theorem dFar_eFar (s : Far) : dFar (eFar s) = s := rfl
theorem dSpan_mk (a b : Int) : dSpan (.agg [eInt a, eInt b]) = Span.mk a b := rfl
theorem dReach_mk (a b c d : Int) : dReach (.agg [eInt a, eInt b, eInt c, eInt d]) = Reach.mk a b (Span.mk c d) := rfl
theorem dWay_mk (a b c d e : Int) : dWay (.agg [eInt a, eInt b, eInt c, eInt d, eInt e]) = Way.mk a b (Span.mk c d) e := rfl
theorem dStep_mk (a : Int) (b : Bool) : dStep (.agg [eInt a, eBool b]) = Step.mk a b := rfl
theorem dFar_mk (a b c : Int) (d : Bool) : dFar (.agg [eInt a, eInt b, eInt c, eBool d]) = Far.mk a b (Step.mk c d) := rfl
def ann (n : Nat) (l : List (FuncId × Sym.Spec)) : Ann := { base := fun id => 1000 * (id + 1), Γ := Sym.look l, E := [], n := n }
def okFn (A : Ann) (fn : Func) (xs : List AVal) (L : List (Nat × AObj)) (keep : List (Nat × HCell)) : Bool :=
  !(fn.name == "runtime.NumGoroutine") && fn.body.isSome && Nat.beq A.n fn.ntmps && Nat.ble xs.length fn.ntmps && A.E == L.map (·.1) && nodup (keep.map (·.1))
theorem mixed : Try.prog.follows .mixedOrders = true := by kernel_rfl
theorem noI {A : Ann} (h : A.iterIn = fun _ _ => none) (h2 : A.iter = fun _ => none) : IterOk Try.prog A := fun gs g x e => by
  rw [Ann.iterAt, h] at e; simp only [h2] at e; cases e
theorem fnt {A : Ann} {g : FuncId} {fn : Func} {xs : List AVal} {L : List (Nat × AObj)} {val : AVal} {keep : List (Nat × HCell)} {ren : List (Nat × Nat)} {fz : List Nat} (hf : Try.prog.funcs[g]? = some fn) (hok : okFn A fn xs L keep = true)
    (hΓ : GOk Try.prog A.Γ) (h : fnVC Try.prog A fn (bodyOf fn) xs (heapOf L) val keep ren fz) (hI : IterOk Try.prog A := by exact noI rfl rfl) : FnT Try.prog g xs (heapOf L) val keep := by
  simp only [okFn, Bool.and_eq_true, Bool.not_eq_true', beq_iff_eq, natBeq_iff, Nat.ble_eq, Option.isSome_iff_exists] at hok
  obtain ⟨⟨⟨⟨⟨h1, code, h2⟩, h3⟩, h4⟩, h5⟩, h6⟩ := hok
  exact FnT.of_vc hΓ hI mixed hf h1 h2 ⟨h3, h4⟩ h5 h6 (by unfold bodyOf at h; rw [h2] at h; exact h)
def isSpan : DVal → Prop
  | .agg [.v (.int .i64 _), .v (.int .i64 _)] => True
  | _ => False
def isReach : DVal → Prop
  | .agg [.v (.int .i64 _), .v (.int .i64 _), .v (.int .i64 _), .v (.int .i64 _)] => True
  | _ => False
theorem isSpan_eq {d : DVal} (h : isSpan d) : d = eSpan (dSpan d) := by
  unfold isSpan at h; split at h
  · rfl
  · exact h.elim
theorem isReach_eq {d : DVal} (h : isReach d) : d = eReach (dReach d) := by
  unfold isReach at h; split at h
  · rfl
  · exact h.elim
theorem lst_sub {k n : Nat} {g g' : Nat → DVal} {e : Bool} (h : ∀ i, i < n → g' i = g i) : dsub (lst k n g) (.list k n g' e) := by
  simp only [lst, dsub]
  exact ⟨.inl trivial, trivial, (fun h => by cases h), fun i hi => by rw [h i hi]; exact dsub_refl _⟩
theorem vsub_d {x y : DVal} (h : dsub x y) : vsubL (fun i => i) (fun i => (getO [] i).isSome) [.d x] [.d y] := ⟨h, trivial⟩
theorem w64 {n : Int} (h0 : -9223372036854775808 ≤ n) (h1 : n ≤ 9223372036854775807) : IntKind.i64.wrap n = n := by
  simp only [IntKind.wrap, IntKind.bits, IntKind.signed]
  rcases Int.lt_or_le n 0 with h | h
  · have : n % (2 ^ 64 : Int) = n + 2 ^ 64 := by
      rw [← Int.add_emod_right]; exact Int.emod_eq_of_lt (by omega) (by omega)
    simp only [this]
    rw [if_pos (by simp; omega)]; omega
  · have : n % (2 ^ 64 : Int) = n := Int.emod_eq_of_lt h (by omega)
    simp only [this]
    rw [if_neg (by simp; omega)]
theorem wsucc {a : Nat} (h : a < 9223372036854775807) : IntKind.i64.wrap ((a : Int) + 1) = ((a + 1 : Nat) : Int) := by
  rw [w64 (by omega) (by omega)]; rfl
def idx (p : Nat → Bool) : Nat → Nat → Int
  | 0, _ => -1
  | n + 1, k => if p k then k else idx p n (k + 1)
theorem idx_stop {p : Nat → Bool} {n k : Nat} (hk : k < n) (h : p k = true) : idx p (n - k) k = k := by
  obtain ⟨m, rfl⟩ : ∃ m, n = k + 1 + m := ⟨n - k - 1, by omega⟩
  rw [show k + 1 + m - k = m + 1 by omega]; simp [idx, h]
theorem idx_go {p : Nat → Bool} {n k : Nat} (hk : k < n) (h : p k = false) : idx p (n - k) k = idx p (n - (k + 1)) (k + 1) := by
  obtain ⟨m, rfl⟩ : ∃ m, n = k + 1 + m := ⟨n - k - 1, by omega⟩
  rw [show k + 1 + m - k = m + 1 by omega, show k + 1 + m - (k + 1) = m by omega]; simp [idx, h]
theorem idx_end {p : Nat → Bool} {n k : Nat} (hk : n ≤ k) : idx p (n - k) k = -1 := by
  rw [show n - k = 0 by omega]; rfl
end Go.Bal
namespace Go.Bal.DL
open Go.Sym Go
theorem a1 (n : Int) : dInt (eInt n) = n := rfl
theorem a2 (s : Span) : dSpan (eSpan s) = s := rfl
theorem a3 (s : Reach) : dReach (eReach s) = s := rfl
theorem a4 (s : Way) : dWay (eWay s) = s := rfl
theorem a5 (s : Step) : dStep (eStep s) = s := rfl
theorem b2 (a b : Int) : dSpan (.agg [eInt a, eInt b]) = Span.mk a b := rfl
theorem b3 (a b c d : Int) : dReach (.agg [eInt a, eInt b, eInt c, eInt d]) = Reach.mk a b (Span.mk c d) := rfl
theorem b4 (a b c d e : Int) : dWay (.agg [eInt a, eInt b, eInt c, eInt d, eInt e]) = Way.mk a b (Span.mk c d) e := rfl
theorem b5 (a : Int) (b : Bool) : dStep (.agg [eInt a, eBool b]) = Step.mk a b := rfl
theorem b6 (a b c : Int) (d : Bool) : dFar (.agg [eInt a, eInt b, eInt c, eBool d]) = Far.mk a b (Step.mk c d) := rfl
theorem d1 (s : Span) : Span.mk s.lo s.hi = s := rfl
theorem d2 (s : Reach) : Reach.mk s.fr s.to s.sp = s := rfl
theorem d3 (s : Way) : Way.mk s.fr s.to s.sp s.now = s := rfl
theorem e1 (n : Nat) : Int.toNat (n : Int) = n := rfl
theorem e2 (n : Nat) : (Int.ofNat n).toNat = n := rfl
end Go.Bal.DL

namespace Go.Bal
open Go
abbrev wr (n : Int) : Int := IntKind.i64.wrap n
structure Desk where
  all : List Way
  out : Nat
  nR : Nat
  deriving Inhabited, DecidableEq
def getW (l : List Way) (i : Int) : Way := gD l i.toNat
structure Desk.ok (d : Desk) : Prop where
  out : d.out ≤ 8
  len : d.all.length ≤ 23
  cut : d.nR + d.out ≤ d.all.length
  ends : ∀ i, i < d.all.length → (0 ≤ (gD d.all i).fr ∧ (gD d.all i).fr < d.out + 2) ∧ 0 ≤ (gD d.all i).to ∧ (gD d.all i).to < d.out + 2
def offM (x : Int) (s : Span) : Int := max (max 0 (wr (s.lo - x))) (wr (x - s.hi))
def sumFrom : Int → List Int → Int
  | a, [] => a
  | a, x :: l => sumFrom (wr (a + x)) l
def roomM (w : Way) (back : Bool) : Int × Int :=
  let now := if back then wr (-w.now) else w.now
  let least := if back then wr (-w.sp.hi) else w.sp.lo
  let most := if back then wr (-w.sp.lo) else w.sp.hi
  if now < least then (-1, wr (least - now)) else if now < most then (0, wr (most - now)) else (1, 10000000000)
def toM (d : Desk) (s : Step) : Int := if s.back then (getW d.all s.way).fr else (getW d.all s.way).to
abbrev Map := List (Option Far)
def Map.at (m : Map) (z : Int) : Option Far := if 0 ≤ z then (m[z.toNat]?).join else none
def Map.far (m : Map) (z : Int) : Far := (m.at z).getD ⟨0, 0, ⟨0, false⟩⟩
def better (next was : Far) : Bool := next.cost < was.cost || next.cost == was.cost && next.many < was.many
structure RT where
  m : Map
  ag : Bool
  st : Int → Int
  deriving Inhabited
def relax (d : Desk) (counts : Step → Bool) (here : Far) (r : RT) (s : Step) : RT :=
  if counts s then
    let next : Far := ⟨wr (here.cost + (roomM (getW d.all s.way) s.back).1), wr (here.many + 1), s⟩
    let t := toM d s
    match r.m.at t with
    | none => ⟨r.m.set t.toNat (some next), true, Sym.stUp (fun z => (r.m.at z).isSome) r.st t⟩
    | some was => if better next was then ⟨r.m.set t.toNat (some next), true, Sym.stUp (fun z => (r.m.at z).isSome) r.st t⟩ else r
  else r
def passWays (d : Desk) (counts : Step → Bool) (here : Far) (place : Int) : List Way → Nat → RT → RT
  | [], _, r => r
  | w :: l, i, r =>
    let r := if w.fr = place then relax d counts here r ⟨i, false⟩ else r
    let r := if w.to = place then relax d counts here r ⟨i, true⟩ else r
    passWays d counts here place l (i + 1) r
def passPlaces (d : Desk) (counts : Step → Bool) : Nat → Nat → RT → RT
  | 0, _, r => r
  | n + 1, p, r => passPlaces d counts n (p + 1) (match r.m.at p with
    | none => r
    | some here => passWays d counts here p d.all 0 r)
def reachM (d : Desk) (counts : Step → Bool) : Nat → RT → Option RT
  | 0, _ => none
  | k + 1, r =>
    let r' := passPlaces d counts (d.out + 2) 0 { r with ag := false }
    if r'.ag then reachM d counts k r' else some r'
def fuel : Nat := 1000000000000000000
def start (d : Desk) (fr : Int) : RT := ⟨(List.replicate (d.out + 2) none).set fr.toNat (some ⟨0, 0, ⟨0, false⟩⟩), true, fun z => if z = fr then 0 else 1⟩
def reachV (d : Desk) (counts : Step → Bool) (fr : Int) : Option RT := reachM d counts fuel (start d fr)
def trailM (d : Desk) (m : Map) (fr : Int) : Nat → Int → Option (List Step)
  | 0, _ => none
  | k + 1, at' => if at' = fr then some [] else
    let s := (m.far at').by'
    match trailM d m fr k (toM d ⟨s.way, !s.back⟩) with
    | none => none
    | some l => some (s :: l)
def leastRoom (d : Desk) : Int → List Step → Int
  | a, [] => a
  | a, s :: l => leastRoom d (min a (roomM (getW d.all s.way) s.back).2) l
def pushW (most : Int) (all : List Way) (s : Step) : List Way :=
  all.modify s.way.toNat fun w => { w with now := if s.back then wr (w.now - most) else wr (w.now + most) }
def pushAll (most : Int) (all : List Way) : List Step → List Way
  | [] => all
  | s :: l => pushAll most (pushW most all s) l
def movedM (d : Desk) (fr to : Int) (m : Map) (most : Int) : Option (Desk × Int) := match trailM d m fr fuel to with
  | none => none
  | some l => if l.all (fun s => decide (0 ≤ s.way) && decide (s.way < d.all.length)) && decide (l.length ≤ 1000) then some (⟨pushAll (leastRoom d most l) d.all l, d.out, d.nR⟩, leastRoom d most l) else none
def overW : List Int → List Way → List Int
  | l, [] => l
  | l, w :: r => overW ((l.modify w.fr.toNat fun x => wr (x - w.now)).modify w.to.toNat fun x => wr (x + w.now)) r
def overM (d : Desk) : List Int := overW (List.replicate 10 0) d.all
def firstPos (l : List Int) : Int := idx (fun i => decide (0 < gD l i)) 10 0
def nearest (m : Map) (fr : Int) : List Int → Nat → Int × Far → Int × Far
  | [], _, st => st
  | x :: l, p, st => nearest m fr l (p + 1) (match m.at p with
    | none => st
    | some f => if 0 ≤ x then st else if st.1 = fr || better f st.2 then (p, f) else st)
def any : Step → Bool := fun _ => true
def settleStep (d : Desk) (over : List Int) : Option Desk :=
  let fr := firstPos over
  if fr < 0 ∨ d.out + 2 ≤ fr then none else
  match reachV d any fr with
  | none => none
  | some r =>
    let to := (nearest r.m fr over 0 (fr, ⟨0, 0, ⟨0, false⟩⟩)).1
    match movedM d fr to r.m (min (gD over fr.toNat) (wr (-(gD over to.toNat)))) with
    | none => none
    | some (d, _) => some d
def settleM : Nat → Desk → Option Desk
  | 0, _ => none
  | k + 1, d => if overM d = List.replicate 10 0 then some d else match settleStep d (overM d) with
    | none => none
    | some d => settleM k d
def settleV (d : Desk) : Option Desk := settleM fuel d
structure NetL where
  g : List Span
  r : List Reach
  deriving Inhabited, DecidableEq
structure TruthL where
  f : List Int
  t : List Int
  deriving Inhabited, DecidableEq
def begunAll (N : NetL) : List Way :=
  (N.r.map fun r => (⟨r.fr, r.to, r.sp, 0⟩ : Way)) ++ (List.range N.g.length).map fun (i : Nat) => (⟨N.g.length, i, gD N.g i, 0⟩ : Way)
def begunM (N : NetL) : Desk := ⟨(begunAll N).map fun w => { w with now := min (max 0 w.sp.lo) w.sp.hi }, N.g.length, N.r.length⟩
def truthM (d : Desk) : TruthL := ⟨(List.range d.nR).map fun i => (gD d.all i).now, (List.range d.out).map fun i => (gD d.all (d.nR + i)).now⟩
def costL (N : NetL) (t : TruthL) : List Int :=
  ((List.range N.r.length).map fun i => offM (gD t.f i) (gD N.r i).sp) ++ (List.range N.g.length).map fun i => offM (gD t.t i) (gD N.g i)
def costM (N : NetL) (t : TruthL) : Int := sumFrom 0 (costL N t)
def settledV (N : NetL) : Option (Desk × Int) := match settleV (begunM N) with
  | none => none
  | some d => some (d, costM N (truthM d))
def freeM (d : Desk) (at' : Int) : Step → Bool := fun s => (roomM (getW d.all s.way) s.back).1 = 0 && s ≠ ⟨at', true⟩ && s ≠ ⟨at', false⟩
def addNow (all : List Way) (at' : Int) (up : Bool) (n : Int) : List Way :=
  all.modify at'.toNat fun w => { w with now := if up then wr (w.now + n) else wr (w.now - n) }
def shiftM (at' : Int) (up : Bool) (most : Int) : Nat → Desk → Int → Option (Desk × Int)
  | 0, _, _ => none
  | k + 1, d, total => if total < most then
      let pr := roomM (getW d.all at') (!up)
      let fr := toM d ⟨at', !up⟩
      let to := toM d ⟨at', up⟩
      match reachV d (freeM d at') fr with
      | none => none
      | some r => if (r.m.at to).isNone || 0 < pr.1 then some (d, total) else
        match movedM d fr to r.m (min pr.2 (wr (most - total))) with
        | none => none
        | some (d, n) => shiftM at' up most k ⟨addNow d.all at' up n, d.out, d.nR⟩ (wr (total + n))
    else some (d, total)
def shiftV (d : Desk) (at' : Int) (up : Bool) (most : Int) : Option (Desk × Int) := shiftM at' up most fuel d 0
def spanV (d : Desk) (at' : Int) : Option Span := match shiftV d at' false 100000000, shiftV d at' true 100000000 with
  | some (l, _), some (h, _) => some ⟨(getW l.all at').now, (getW h.all at').now⟩
  | _, _ => none
end Go.Bal
namespace Go.Bal.DL
theorem d6 (d : Desk) : Desk.mk d.all d.out d.nR = d := rfl
theorem d7 (n : NetL) : NetL.mk n.g n.r = n := rfl
theorem d8 (n : TruthL) : TruthL.mk n.f n.t = n := rfl
end Go.Bal.DL
