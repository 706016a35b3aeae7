/- Package balance: what its functions compute. -/
import Derived.Test.YtonddbmhljelgaaBal0
set_option linter.unusedVariables false
set_option linter.unusedSimpArgs false
namespace Go.Bal
open Go
abbrev wr (n : Int) : Int := IntKind.i64.wrap n
structure Desk where
  all : List Way
  out : Nat
  nR : Nat
  deriving Inhabited, DecidableEq
def getW (l : List Way) (i : Int) : Way := gD l i.toNat
structure Desk.ok (d : Desk) : Prop where
  out : d.out ≤ 8
  len : d.all.length ≤ 23
  cut : d.nR + d.out ≤ d.all.length
  ends : ∀ i, i < d.all.length → (0 ≤ (gD d.all i).fr ∧ (gD d.all i).fr < d.out + 2) ∧ 0 ≤ (gD d.all i).to ∧ (gD d.all i).to < d.out + 2
def offM (x : Int) (s : Span) : Int := max (max 0 (wr (s.lo - x))) (wr (x - s.hi))
def sumFrom : Int → List Int → Int
  | a, [] => a
  | a, x :: l => sumFrom (wr (a + x)) l
def roomM (w : Way) (back : Bool) : Int × Int :=
  let now := if back then wr (-w.now) else w.now
  let least := if back then wr (-w.sp.hi) else w.sp.lo
  let most := if back then wr (-w.sp.lo) else w.sp.hi
  if now < least then (-1, wr (least - now)) else if now < most then (0, wr (most - now)) else (1, 10000000000)
def toM (d : Desk) (s : Step) : Int := if s.back then (getW d.all s.way).fr else (getW d.all s.way).to
abbrev Map := List (Option Far)
def Map.at (m : Map) (z : Int) : Option Far := if 0 ≤ z then (m[z.toNat]?).join else none
def Map.far (m : Map) (z : Int) : Far := (m.at z).getD ⟨0, 0, ⟨0, false⟩⟩
def better (next was : Far) : Bool := next.cost < was.cost || next.cost == was.cost && next.many < was.many
structure RT where
  m : Map
  ag : Bool
  st : Int → Int
  deriving Inhabited
def relax (d : Desk) (counts : Step → Bool) (here : Far) (r : RT) (s : Step) : RT :=
  if counts s then
    let next : Far := ⟨wr (here.cost + (roomM (getW d.all s.way) s.back).1), wr (here.many + 1), s⟩
    let t := toM d s
    match r.m.at t with
    | none => ⟨r.m.set t.toNat (some next), true, Sym.stUp (fun z => (r.m.at z).isSome) r.st t⟩
    | some was => if better next was then ⟨r.m.set t.toNat (some next), true, Sym.stUp (fun z => (r.m.at z).isSome) r.st t⟩ else r
  else r
def passWays (d : Desk) (counts : Step → Bool) (here : Far) (place : Int) : List Way → Nat → RT → RT
  | [], _, r => r
  | w :: l, i, r =>
    let r := if w.fr = place then relax d counts here r ⟨i, false⟩ else r
    let r := if w.to = place then relax d counts here r ⟨i, true⟩ else r
    passWays d counts here place l (i + 1) r
def passPlaces (d : Desk) (counts : Step → Bool) : Nat → Nat → RT → RT
  | 0, _, r => r
  | n + 1, p, r => passPlaces d counts n (p + 1) (match r.m.at p with
    | none => r
    | some here => passWays d counts here p d.all 0 r)
def reachM (d : Desk) (counts : Step → Bool) : Nat → RT → Option RT
  | 0, _ => none
  | k + 1, r =>
    let r' := passPlaces d counts (d.out + 2) 0 { r with ag := false }
    if r'.ag then reachM d counts k r' else some r'
def fuel : Nat := 1000000000000000000
def start (d : Desk) (fr : Int) : RT := ⟨(List.replicate (d.out + 2) none).set fr.toNat (some ⟨0, 0, ⟨0, false⟩⟩), true, fun z => if z = fr then 0 else 1⟩
def reachV (d : Desk) (counts : Step → Bool) (fr : Int) : Option RT := reachM d counts fuel (start d fr)
def trailM (d : Desk) (m : Map) (fr : Int) : Nat → Int → Option (List Step)
  | 0, _ => none
  | k + 1, at' => if at' = fr then some [] else
    let s := (m.far at').by'
    match trailM d m fr k (toM d ⟨s.way, !s.back⟩) with
    | none => none
    | some l => some (s :: l)
def leastRoom (d : Desk) : Int → List Step → Int
  | a, [] => a
  | a, s :: l => leastRoom d (min a (roomM (getW d.all s.way) s.back).2) l
def pushW (most : Int) (all : List Way) (s : Step) : List Way :=
  all.modify s.way.toNat fun w => { w with now := if s.back then wr (w.now - most) else wr (w.now + most) }
def pushAll (most : Int) (all : List Way) : List Step → List Way
  | [] => all
  | s :: l => pushAll most (pushW most all s) l
def movedM (d : Desk) (fr to : Int) (m : Map) (most : Int) : Option (Desk × Int) := match trailM d m fr fuel to with
  | none => none
  | some l => if l.all (fun s => decide (0 ≤ s.way) && decide (s.way < d.all.length)) && decide (l.length ≤ 1000) then some (⟨pushAll (leastRoom d most l) d.all l, d.out, d.nR⟩, leastRoom d most l) else none
def overW : List Int → List Way → List Int
  | l, [] => l
  | l, w :: r => overW ((l.modify w.fr.toNat fun x => wr (x - w.now)).modify w.to.toNat fun x => wr (x + w.now)) r
def overM (d : Desk) : List Int := overW (List.replicate 10 0) d.all
def firstPos (l : List Int) : Int := idx (fun i => decide (0 < gD l i)) 10 0
def nearest (m : Map) (fr : Int) : List Int → Nat → Int × Far → Int × Far
  | [], _, st => st
  | x :: l, p, st => nearest m fr l (p + 1) (match m.at p with
    | none => st
    | some f => if 0 ≤ x then st else if st.1 = fr || better f st.2 then (p, f) else st)
def any : Step → Bool := fun _ => true
def settleStep (d : Desk) (over : List Int) : Option Desk :=
  let fr := firstPos over
  if fr < 0 ∨ d.out + 2 ≤ fr then none else
  match reachV d any fr with
  | none => none
  | some r =>
    let to := (nearest r.m fr over 0 (fr, ⟨0, 0, ⟨0, false⟩⟩)).1
    match movedM d fr to r.m (min (gD over fr.toNat) (wr (-(gD over to.toNat)))) with
    | none => none
    | some (d, _) => some d
def settleM : Nat → Desk → Option Desk
  | 0, _ => none
  | k + 1, d => if overM d = List.replicate 10 0 then some d else match settleStep d (overM d) with
    | none => none
    | some d => settleM k d
def settleV (d : Desk) : Option Desk := settleM fuel d
structure NetL where
  g : List Span
  r : List Reach
  deriving Inhabited, DecidableEq
structure TruthL where
  f : List Int
  t : List Int
  deriving Inhabited, DecidableEq
def begunAll (N : NetL) : List Way :=
  (N.r.map fun r => (⟨r.fr, r.to, r.sp, 0⟩ : Way)) ++ (List.range N.g.length).map fun (i : Nat) => (⟨N.g.length, i, gD N.g i, 0⟩ : Way)
def begunM (N : NetL) : Desk := ⟨(begunAll N).map fun w => { w with now := min (max 0 w.sp.lo) w.sp.hi }, N.g.length, N.r.length⟩
def truthM (d : Desk) : TruthL := ⟨(List.range d.nR).map fun i => (gD d.all i).now, (List.range d.out).map fun i => (gD d.all (d.nR + i)).now⟩
def costL (N : NetL) (t : TruthL) : List Int :=
  ((List.range N.r.length).map fun i => offM (gD t.f i) (gD N.r i).sp) ++ (List.range N.g.length).map fun i => offM (gD t.t i) (gD N.g i)
def costM (N : NetL) (t : TruthL) : Int := sumFrom 0 (costL N t)
def settledV (N : NetL) : Option (Desk × Int) := match settleV (begunM N) with
  | none => none
  | some d => some (d, costM N (truthM d))
def freeM (d : Desk) (at' : Int) : Step → Bool := fun s => (roomM (getW d.all s.way) s.back).1 = 0 && s ≠ ⟨at', true⟩ && s ≠ ⟨at', false⟩
def addNow (all : List Way) (at' : Int) (up : Bool) (n : Int) : List Way :=
  all.modify at'.toNat fun w => { w with now := if up then wr (w.now + n) else wr (w.now - n) }
def shiftM (at' : Int) (up : Bool) (most : Int) : Nat → Desk → Int → Option (Desk × Int)
  | 0, _, _ => none
  | k + 1, d, total => if total < most then
      let pr := roomM (getW d.all at') (!up)
      let fr := toM d ⟨at', !up⟩
      let to := toM d ⟨at', up⟩
      match reachV d (freeM d at') fr with
      | none => none
      | some r => if (r.m.at to).isNone || 0 < pr.1 then some (d, total) else
        match movedM d fr to r.m (min pr.2 (wr (most - total))) with
        | none => none
        | some (d, n) => shiftM at' up most k ⟨addNow d.all at' up n, d.out, d.nR⟩ (wr (total + n))
    else some (d, total)
def shiftV (d : Desk) (at' : Int) (up : Bool) (most : Int) : Option (Desk × Int) := shiftM at' up most fuel d 0
def spanV (d : Desk) (at' : Int) : Option Span := match shiftV d at' false 100000000, shiftV d at' true 100000000 with
  | some (l, _), some (h, _) => some ⟨(getW l.all at').now, (getW h.all at').now⟩
  | _, _ => none
end Go.Bal
namespace Go.Bal.DL
theorem d6 (d : Desk) : Desk.mk d.all d.out d.nR = d := rfl
theorem d7 (n : NetL) : NetL.mk n.g n.r = n := rfl
theorem d8 (n : TruthL) : TruthL.mk n.f n.t = n := rfl
end Go.Bal.DL
