/- Package balance: what its functions compute. -/
import Derived.Test.YtonddbmhljelgaaBal0
set_option linter.unusedVariables false
set_option linter.unusedSimpArgs false
namespace Go.Bal
open Go
abbrev wr (n : Int) : Int := IntKind.i64.wrap n
structure Desk where
 all : List Way
 out : Nat
 nR : Nat
 deriving Inhabited, DecidableEq
def BW (l : List Way) (i : Int) : Way := gD l i.toNat
structure Desk.ok (d : Desk) : Prop where
 out : d.out <= 8
 len : d.all.length <= 23
 cut : d.nR + d.out <= d.all.length
 ends : ∀ i, i < d.all.length -> (0 <= (gD d.all i).fr /\ (gD d.all i).fr < d.out + 2) /\ 0 <= (gD d.all i).to /\ (gD d.all i).to < d.out + 2
def SC (x : Int) (s : Span) : Int := max (max 0 (wr (s.lo - x))) (wr (x - s.hi))
def ES : Int -> List Int -> Int
 | a, [] => a
 | a, x :: l => ES (wr (a + x)) l
def AV (w : Way) (back : Bool) : Int × Int :=
 let now := if back then wr (-w.now) else w.now
 let least := if back then wr (-w.sp.hi) else w.sp.lo
 let most := if back then wr (-w.sp.lo) else w.sp.hi
 if now < least then (-1, wr (least - now)) else if now < most then (0, wr (most - now)) else (1, 10000000000)
def DB (d : Desk) (s : Step) : Int := if s.back then (BW d.all s.way).fr else (BW d.all s.way).to
abbrev Map := List (Option Far)
def Map.at (m : Map) (z : Int) : Option Far := if 0 <= z then (m[z.toNat]?).join else none
def Map.far (m : Map) (z : Int) : Far := (m.at z).getD ⟨0, 0, ⟨0, false⟩⟩
def better (next was : Far) : Bool := next.cost < was.cost || next.cost == was.cost && next.many < was.many
structure RT where
 m : Map
 ag : Bool
 st : Int -> Int
 deriving Inhabited
def DN (d : Desk) (counts : Step -> Bool) (here : Far) (r : RT) (s : Step) : RT :=
 if counts s then
  let next : Far := ⟨wr (here.cost + (AV (BW d.all s.way) s.back).1), wr (here.many + 1), s⟩
  let t := DB d s
  match r.m.at t with
  | none => ⟨r.m.set t.toNat (some next), true, Sym.stUp (λ z => (r.m.at z).isSome) r.st t⟩
  | some was => if better next was then ⟨r.m.set t.toNat (some next), true, Sym.stUp (λ z => (r.m.at z).isSome) r.st t⟩ else r
 else r
def CG (d : Desk) (counts : Step -> Bool) (here : Far) (place : Int) : List Way -> Nat -> RT -> RT
 | [], _, r => r
 | w :: l, i, r =>
  let r := if w.fr = place then DN d counts here r ⟨i, false⟩ else r
  let r := if w.to = place then DN d counts here r ⟨i, true⟩ else r
  CG d counts here place l (i + 1) r
def AU (d : Desk) (counts : Step -> Bool) : Nat -> Nat -> RT -> RT
 | 0, _, r => r
 | n + 1, p, r => AU d counts n (p + 1) (match r.m.at p with
  | none => r
  | some here => CG d counts here p d.all 0 r)
def YW (d : Desk) (counts : Step -> Bool) : Nat -> RT -> Option RT
 | 0, _ => none
 | k + 1, r =>
  let r' := AU d counts (d.out + 2) 0 { r with ag := false }
  if r'.ag then YW d counts k r' else some r'
def fuel : Nat := 1000000000000000000
def FG (d : Desk) (fr : Int) : RT := ⟨(List.replicate (d.out + 2) none).set fr.toNat (some ⟨0, 0, ⟨0, false⟩⟩), true, λ z => if z = fr then 0 else 1⟩
def EJ (d : Desk) (counts : Step -> Bool) (fr : Int) : Option RT := YW d counts fuel (FG d fr)
def EK (d : Desk) (m : Map) (fr : Int) : Nat -> Int -> Option (List Step)
 | 0, _ => none
 | k + 1, at' => if at' = fr then some [] else
  let s := (m.far at').by'
  match EK d m fr k (DB d ⟨s.way, !s.back⟩) with
  | none => none
  | some l => some (s :: l)
def CY (d : Desk) : Int -> List Step -> Int
 | a, [] => a
 | a, s :: l => CY d (min a (AV (BW d.all s.way) s.back).2) l
def DH (most : Int) (all : List Way) (s : Step) : List Way :=
 all.modify s.way.toNat λ w => { w with now := if s.back then wr (w.now - most) else wr (w.now + most) }
def AI (most : Int) (all : List Way) : List Step -> List Way
 | [] => all
 | s :: l => AI most (DH most all s) l
def JT (d : Desk) (fr to : Int) (m : Map) (most : Int) : Option (Desk × Int) := match EK d m fr fuel to with
 | none => none
 | some l => if l.all (λ s => decide (0 <= s.way) && decide (s.way < d.all.length)) && decide (l.length <= 1000) then some (⟨AI (CY d most l) d.all l, d.out, d.nR⟩, CY d most l) else none
def PX : List Int -> List Way -> List Int
 | l, [] => l
 | l, w :: r => PX ((l.modify w.fr.toNat λ x => wr (x - w.now)).modify w.to.toNat λ x => wr (x + w.now)) r
def AY (d : Desk) : List Int := PX (List.replicate 10 0) d.all
def CP (l : List Int) : Int := GC (λ i => decide (0 < gD l i)) 10 0
def FA (m : Map) (fr : Int) : List Int -> Nat -> Int × Far -> Int × Far
 | [], _, st => st
 | x :: l, p, st => FA m fr l (p + 1) (match m.at p with
  | none => st
  | some f => if 0 <= x then st else if st.1 = fr || better f st.2 then (p, f) else st)
def any : Step -> Bool := λ _ => true
def GN (d : Desk) (over : List Int) : Option Desk :=
 let fr := CP over
 if fr < 0 ∨ d.out + 2 <= fr then none else
 match EJ d any fr with
 | none => none
 | some r =>
  let to := (FA r.m fr over 0 (fr, ⟨0, 0, ⟨0, false⟩⟩)).1
  match JT d fr to r.m (min (gD over fr.toNat) (wr (-(gD over to.toNat)))) with
  | none => none
  | some (d, _) => some d
def DW : Nat -> Desk -> Option Desk
 | 0, _ => none
 | k + 1, d => if AY d = List.replicate 10 0 then some d else match GN d (AY d) with
  | none => none
  | some d => DW k d
def BY (d : Desk) : Option Desk := DW fuel d
structure NetL where
 g : List Span
 r : List Reach
 deriving Inhabited, DecidableEq
structure TruthL where
 f : List Int
 t : List Int
 deriving Inhabited, DecidableEq
def AF (N : NetL) : List Way :=
 (N.r.map λ r => (⟨r.fr, r.to, r.sp, 0⟩ : Way)) ++ (List.range N.g.length).map λ (i : Nat) => (⟨N.g.length, i, gD N.g i, 0⟩ : Way)
def AQ (N : NetL) : Desk := ⟨(AF N).map λ w => { w with now := min (max 0 w.sp.lo) w.sp.hi }, N.g.length, N.r.length⟩
def AP (d : Desk) : TruthL := ⟨(List.range d.nR).map λ i => (gD d.all i).now, (List.range d.out).map λ i => (gD d.all (d.nR + i)).now⟩
def FU (N : NetL) (t : TruthL) : List Int :=
 ((List.range N.r.length).map λ i => SC (gD t.f i) (gD N.r i).sp) ++ (List.range N.g.length).map λ i => SC (gD t.t i) (gD N.g i)
def IJ (N : NetL) (t : TruthL) : Int := ES 0 (FU N t)
def AT (N : NetL) : Option (Desk × Int) := match BY (AQ N) with
 | none => none
 | some d => some (d, IJ N (AP d))
def BP (d : Desk) (at' : Int) : Step -> Bool := λ s => (AV (BW d.all s.way) s.back).1 = 0 && s ≠ ⟨at', true⟩ && s ≠ ⟨at', false⟩
def BC (all : List Way) (at' : Int) (up : Bool) (n : Int) : List Way :=
 all.modify at'.toNat λ w => { w with now := if up then wr (w.now + n) else wr (w.now - n) }
def IT (at' : Int) (up : Bool) (most : Int) : Nat -> Desk -> Int -> Option (Desk × Int)
 | 0, _, _ => none
 | k + 1, d, total => if total < most then
   let pr := AV (BW d.all at') (!up)
   let fr := DB d ⟨at', !up⟩
   let to := DB d ⟨at', up⟩
   match EJ d (BP d at') fr with
   | none => none
   | some r => if (r.m.at to).isNone || 0 < pr.1 then some (d, total) else
    match JT d fr to r.m (min pr.2 (wr (most - total))) with
    | none => none
    | some (d, n) => IT at' up most k ⟨BC d.all at' up n, d.out, d.nR⟩ (wr (total + n))
  else some (d, total)
def LC (d : Desk) (at' : Int) (up : Bool) (most : Int) : Option (Desk × Int) := IT at' up most fuel d 0
def EI (d : Desk) (at' : Int) : Option Span := match LC d at' false 100000000, LC d at' true 100000000 with
 | some (l, _), some (h, _) => some ⟨(BW l.all at').now, (BW h.all at').now⟩
 | _, _ => none
end Go.Bal
namespace Go.Bal.DL
theorem d6 (d : Desk) : Desk.mk d.all d.out d.nR = d := rfl
theorem d7 (n : NetL) : NetL.mk n.g n.r = n := rfl
theorem d8 (n : TruthL) : TruthL.mk n.f n.t = n := rfl
end Go.Bal.DL
