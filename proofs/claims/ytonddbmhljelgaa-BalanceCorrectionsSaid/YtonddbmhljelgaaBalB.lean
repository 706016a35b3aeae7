/- Package balance: small functions of a net at work. -/
import Derived.Test.YtonddbmhljelgaaBalA
import Derived.Test.YtonddbmhljelgaaBal0
set_option linter.unusedVariables false
set_option linter.unusedSimpArgs false
namespace Go.Bal
open Go Go.Sym Go.Proofs
def deskB (d : Desk) (r : Nat) : AObj := .box [.own r 5 0 d.all.length, .int d.out, .int d.nR]
def deskR (d : Desk) : AObj := .row 5 d.all.length fun i => eWay (gD d.all i)
def deskL (d : Desk) : List (Nat × AObj) := [(100, deskB d 101), (101, deskR d)]
def deskK (d : Desk) : List (Nat × HCell) := [(100, .live (deskB d 101)), (101, .live (deskR d))]
def decDesk (H : Heap) (id : Nat) : Option (Desk × Nat) := match H id with
  | .live (.box [.own r _ _ n, .d (.v (.int _ o)), .d (.v (.int _ q))]) => match H r with
    | .live (.row _ _ get) => some (⟨rng n fun i => dWay (get i), o.toNat, q.toNat⟩, r)
    | _ => none
  | _ => none
theorem okC (C : Ctr) (A : C.α → Ann) (ren : List (Nat × Nat)) (fz : List Nat) {g : FuncId} {fn : Func} (hf : Try.prog.funcs[g]? = some fn) (hok : ∀ a, okFn (A a) fn (C.xs a) (C.L a) (C.keep a) = true) (hΓ : ∀ a, GOk Try.prog (A a).Γ)
    (h : ∀ a, allP (C.pre a) → fnVC Try.prog (A a) fn (bodyOf fn) (C.xs a) (heapOf (C.L a)) (C.val a) (C.keep a) ren fz) (hI : ∀ a, IterOk Try.prog (A a)) (dec : List AVal → Heap → Option (C.α × List (Nat × Nat) × List Nat)) : SpecOk Try.prog g (C.spec dec) :=
  Ctr.spec_ok (fun a ha => fnt hf (hok a) (hΓ a) (h a ha) (hI a)) dec
def V98 (x : Int) (s : Span) : Prop := fnVC Try.prog (ann 14 []) Try.f98 (bodyOf Try.f98) [.int x, .d (eSpan s)] (heapOf []) (.int (offM x s)) [] [] []
theorem vc98 (x : Int) (s : Span) : (V98 x s) = (offM x s = maxI (maxI 0 (IntKind.i64.wrap (s.lo - x))) (IntKind.i64.wrap (x - s.hi))) := by kernel_rfl
def f98 : List AVal → Option (AVal × List Prop)
  | [.d (.v (.int .i64 x)), .d (.agg [.v (.int .i64 a), .v (.int .i64 b)])] => some (.int (offM x ⟨a, b⟩), [])
  | _ => none
def s98 := pureSpec f98
theorem maxI_eq (a b : Int) : maxI a b = max a b := by unfold maxI; split <;> omega
theorem minI_eq (a b : Int) : minI a b = min a b := by unfold minI; split <;> omega
theorem p98 (x : Int) (s : Span) : V98 x s := by
  rw [vc98]; simp only [maxI_eq]; rfl
theorem ok98 : SpecOk Try.prog 98 s98 := pureSpec_ok fun xs v p h _ => by
  unfold f98 at h; split at h
  · cases h; exact fnt (A := ann 14 []) (ren := []) (fz := []) Try.func98 (by kernel_rfl) gok_nil (p98 _ ⟨_, _⟩)
  · cases h
structure DS where
  d : Desk
  s : Step
def dDS : List AVal → Heap → Option (DS × List (Nat × Nat) × List Nat)
  | [.bptr id _, .d s], H => match decDesk H id with
    | some (d, r) => some (⟨d, dStep s⟩, [(100, id), (101, r)], [])
    | none => none
  | _, _ => none
def A85 : Ann := { ann 49 [] with E := [100, 101] }
def C85 : Ctr := { ro := [100, 101], α := DS, xs := fun a => [.bptr 100 0, .d (eStep a.s)], L := fun a => deskL a.d, val := fun a => .tup [.int (roomM (getW a.d.all a.s.way) a.s.back).1, .int (roomM (getW a.d.all a.s.way) a.s.back).2], keep := fun a => deskK a.d, pre := fun a => [0 ≤ a.s.way ∧ a.s.way < a.d.all.length] }
def V85 (a : DS) : Prop := fnVC Try.prog A85 Try.f85 (bodyOf Try.f85) (C85.xs a) (heapOf (C85.L a)) (C85.val a) (C85.keep a) [] []
abbrev z85_0 (a : DS) : Nat := 0 + a.s.way.toNat
abbrev z85_1 (a : DS) : Way := gD a.d.all (z85_0 a)
abbrev z85_2 (a : DS) : Int := (z85_1 a).now
abbrev z85_3 (a : DS) : Int := IntKind.i64.wrap (0 - z85_2 a)
abbrev z85_4 (a : DS) : Span := (z85_1 a).sp
abbrev z85_5 (a : DS) : Int := (z85_4 a).hi
abbrev z85_6 (a : DS) : Int := IntKind.i64.wrap (0 - z85_5 a)
abbrev z85_7 (a : DS) : Int × Int := roomM (getW a.d.all a.s.way) a.s.back
abbrev z85_8 (a : DS) : Int := (z85_7 a).fst
abbrev z85_9 (a : DS) : Prop := z85_8 a = -1
abbrev z85_10 (a : DS) : Int := (z85_7 a).snd
abbrev z85_11 (a : DS) : Prop := a.d.all.length = a.d.all.length
abbrev z85_12 (a : DS) : Prop := 0 = 0 ∧ z85_11 a ∧ (↑a.d.out : Int) = (↑a.d.out : Int) ∧ (↑a.d.nR : Int) = (↑a.d.nR : Int) ∧ z85_11 a ∧ ∀ (i : Nat), i < a.d.all.length → (gD a.d.all i).fr = (gD a.d.all i).fr ∧ (gD
 a.d.all i).to = (gD a.d.all i).to ∧ (gD a.d.all i).sp.lo = (gD a.d.all i).sp.lo ∧ (gD a.d.all i).sp.hi = (gD a.d.all i).sp.hi ∧ (gD a.d.all i).now = (gD a.d.all i).now
abbrev z85_13 (a : DS) : Int := (z85_4 a).lo
abbrev z85_14 (a : DS) : Int := IntKind.i64.wrap (0 - z85_13 a)
abbrev z85_15 (a : DS) : Prop := z85_8 a = 0
abbrev z85_16 (a : DS) : Prop := z85_8 a = 1 ∧ z85_10 a = 10000000000 ∧ z85_12 a
theorem vc85 (a : DS) : (V85 a) = (((0 ≤ a.s.way ∧ a.s.way < (↑a.d.all.length : Int)) ∧ (z85_0 a).succ.le a.d.all.length) ∧ bif a.s.back then bif decide (z85_3 a < z85_6 a) then z85_9 a ∧ z85_10 a = IntKind.i64.wrap
 (z85_6 a - z85_3 a) ∧ z85_12 a else bif decide (z85_3 a < z85_14 a) then z85_15 a ∧ z85_10 a = IntKind.i64.wrap (z85_14 a - z85_3 a) ∧ z85_12 a else z85_16 a else bif decide (z85_2 a < z85_13 a) then z85_9 a ∧ z85_10 a =
 IntKind.i64.wrap (z85_13 a - z85_2 a) ∧ z85_12 a else bif decide (z85_2 a < z85_5 a) then z85_15 a ∧ z85_10 a = IntKind.i64.wrap (z85_5 a - z85_2 a) ∧ z85_12 a else z85_16 a) := by kernel_rfl
theorem p85 (a : DS) (h : 0 ≤ a.s.way ∧ a.s.way < a.d.all.length) : V85 a := by
  rw [vc85]; delta z85_0 z85_1 z85_2 z85_3 z85_4 z85_5 z85_6 z85_7 z85_8 z85_9 z85_10 z85_11 z85_12 z85_13 z85_14 z85_15 z85_16; simp only [condP, eq_self, implies_true, and_self, true_and, and_true, true_implies, forall_const, decide_eq_true_eq, decide_eq_false_iff_not, Int.toNat_natCast, dSpan_eSpan, dReach_eReach, dWay_eWay, dStep_eStep, dFar_eFar, dInt_eInt, Nat.zero_add, Int.zero_sub, Nat.le_eq, Nat.succ_eq_add_one, Nat.add_one_le_iff, Bool.not_eq_true', Bool.not_eq_false', rng_length, dSpan_mk, dReach_mk, dWay_mk, dStep_mk, dFar_mk, rng_getD]
  refine ⟨⟨h, by omega⟩, fun hb => ⟨fun h1 => ?_, fun h1 => ⟨fun h2 => ?_, fun h2 => ?_⟩⟩, fun hb => ⟨fun h1 => ?_, fun h1 => ⟨fun h2 => ?_, fun h2 => ?_⟩⟩⟩ <;> simp [roomM, getW, *]
theorem ok85 : SpecOk Try.prog 85 (C85.spec dDS) := okC C85 (fun _ => A85) [] [] Try.func85 (fun _ => by kernel_rfl) (fun _ => gok_nil) p85 (fun _ => noI rfl rfl) _
def A87 : Ann := { ann 27 [] with E := [100, 101] }
def C87 : Ctr := { ro := [100, 101], α := DS, xs := fun a => [.bptr 100 0, .d (eStep a.s)], L := fun a => deskL a.d, val := fun a => .int (toM a.d a.s), keep := fun a => deskK a.d, pre := fun a => [0 ≤ a.s.way ∧ a.s.way < a.d.all.length] }
def V87 (a : DS) : Prop := fnVC Try.prog A87 Try.f87 (bodyOf Try.f87) (C87.xs a) (heapOf (C87.L a)) (C87.val a) (C87.keep a) [] []
theorem vc87 (a : DS) : (V87 a) = (bif a.s.back then ((0 ≤ a.s.way ∧ a.s.way < (↑a.d.all.length : Int)) ∧ (0 + a.s.way.toNat).succ.le a.d.all.length) ∧ toM a.d a.s = (gD a.d.all (0 + a.s.way.toNat)).fr ∧ 0 = 0 ∧
 a.d.all.length = a.d.all.length ∧ (↑a.d.out : Int) = (↑a.d.out : Int) ∧ (↑a.d.nR : Int) = (↑a.d.nR : Int) ∧ a.d.all.length = a.d.all.length ∧ ∀ (i : Nat), i < a.d.all.length → (gD a.d.all i).fr = (gD a.d.all i).fr ∧ (gD
 a.d.all i).to = (gD a.d.all i).to ∧ (gD a.d.all i).sp.lo = (gD a.d.all i).sp.lo ∧ (gD a.d.all i).sp.hi = (gD a.d.all i).sp.hi ∧ (gD a.d.all i).now = (gD a.d.all i).now else ((0 ≤ a.s.way ∧ a.s.way < (↑a.d.all.length :
 Int)) ∧ (0 + a.s.way.toNat).succ.le a.d.all.length) ∧ toM a.d a.s = (gD a.d.all (0 + a.s.way.toNat)).to ∧ 0 = 0 ∧ a.d.all.length = a.d.all.length ∧ (↑a.d.out : Int) = (↑a.d.out : Int) ∧ (↑a.d.nR : Int) = (↑a.d.nR : Int)
 ∧ a.d.all.length = a.d.all.length ∧ ∀ (i : Nat), i < a.d.all.length → (gD a.d.all i).fr = (gD a.d.all i).fr ∧ (gD a.d.all i).to = (gD a.d.all i).to ∧ (gD a.d.all i).sp.lo = (gD a.d.all i).sp.lo ∧ (gD a.d.all i).sp.hi =
 (gD a.d.all i).sp.hi ∧ (gD a.d.all i).now = (gD a.d.all i).now) := by kernel_rfl
theorem p87 (a : DS) (h : 0 ≤ a.s.way ∧ a.s.way < a.d.all.length) : V87 a := by
  rw [vc87]; simp only [condP, eq_self, implies_true, and_self, true_and, and_true, true_implies, forall_const, decide_eq_true_eq, decide_eq_false_iff_not, Int.toNat_natCast, dSpan_eSpan, dReach_eReach, dWay_eWay, dStep_eStep, dFar_eFar, dInt_eInt, Nat.zero_add, Int.zero_sub, Nat.le_eq, Nat.succ_eq_add_one, Nat.add_one_le_iff, Bool.not_eq_true', Bool.not_eq_false', rng_length, dSpan_mk, dReach_mk, dWay_mk, dStep_mk, dFar_mk, rng_getD]
  refine ⟨fun hb => ⟨⟨h, by omega⟩, ?_⟩, fun hb => ⟨⟨h, by omega⟩, ?_⟩⟩ <;> simp [toM, getW, hb]
theorem ok87 : SpecOk Try.prog 87 (C87.spec dDS) := okC C87 (fun _ => A87) [] [] Try.func87 (fun _ => by kernel_rfl) (fun _ => gok_nil) p87 (fun _ => noI rfl rfl) _
end Go.Bal

namespace Go.Bal
open Go Go.Sym Go.Proofs
def uV : AVal := .d (.tup [])
structure DSM where
  d : Desk
  s : Step
  m : Int
def A108 : Ann := { ann 34 [] with E := [100, 101, 102, 103] }
def C108 : Ctr := { ro := [100, 102, 103], α := DSM, xs := fun a => [.d (eStep a.s), .bptr 102 0, .bptr 103 0], L := fun a => deskL a.d ++ [(102, .box [.bptr 100 0]), (103, .box [.int a.m])], val := fun _ => uV, keep := fun a => deskK (Desk.mk (pushW a.m a.d.all a.s) a.d.out a.d.nR) ++ [(102, .live (.box [.bptr 100 0])), (103, .live (.box [.int a.m]))], pre := fun a => [0 ≤ a.s.way ∧ a.s.way < a.d.all.length] }
def d108 : List AVal → Heap → Option (DSM × List (Nat × Nat) × List Nat)
  | [.d s, .bptr p _, .bptr q _], H => match H p, H q with
    | .live (.box [.bptr id _]), .live (.box [.d (.v (.int _ m))]) => match decDesk H id with
      | some (d, r) => some (⟨d, dStep s, m⟩, [(100, id), (101, r), (102, p), (103, q)], [])
      | none => none
    | _, _ => none
  | _, _ => none
def V108 (a : DSM) : Prop := fnVC Try.prog A108 Try.f108 (bodyOf Try.f108) (C108.xs a) (heapOf (C108.L a)) (C108.val a) (C108.keep a) [] []
theorem vc108 (a : DSM) : (V108 a) = (bif a.s.back then ((0 ≤ a.s.way ∧ a.s.way < (↑a.d.all.length : Int)) ∧ 0 + a.s.way.toNat < a.d.all.length ∧ (0 ≤ a.s.way ∧ a.s.way < (↑a.d.all.length : Int)) ∧ (0 +
 a.s.way.toNat).succ.le a.d.all.length) ∧ 0 = 0 ∧ (pushW a.m a.d.all a.s).length = a.d.all.length ∧ (↑a.d.out : Int) = (↑a.d.out : Int) ∧ (↑a.d.nR : Int) = (↑a.d.nR : Int) ∧ (pushW a.m a.d.all a.s).length = a.d.all.length
 ∧ (∀ (i : Nat), i < (pushW a.m a.d.all a.s).length → ((gD (pushW a.m a.d.all a.s) i).fr = bif decide (i = 0 + a.s.way.toNat) then (gD a.d.all (0 + a.s.way.toNat)).fr else (gD a.d.all i).fr) ∧ ((gD (pushW a.m a.d.all a.s)
 i).to = bif decide (i = 0 + a.s.way.toNat) then (gD a.d.all (0 + a.s.way.toNat)).to else (gD a.d.all i).to) ∧ ((gD (pushW a.m a.d.all a.s) i).sp.lo = bif decide (i = 0 + a.s.way.toNat) then (gD a.d.all (0 +
 a.s.way.toNat)).sp.lo else (gD a.d.all i).sp.lo) ∧ ((gD (pushW a.m a.d.all a.s) i).sp.hi = bif decide (i = 0 + a.s.way.toNat) then (gD a.d.all (0 + a.s.way.toNat)).sp.hi else (gD a.d.all i).sp.hi) ∧ (gD (pushW a.m
 a.d.all a.s) i).now = bif decide (i = 0 + a.s.way.toNat) then IntKind.i64.wrap ((gD a.d.all (0 + a.s.way.toNat)).now - a.m) else (gD a.d.all i).now) ∧ a.m = a.m else ((0 ≤ a.s.way ∧ a.s.way < (↑a.d.all.length : Int)) ∧ 0
 + a.s.way.toNat < a.d.all.length ∧ (0 ≤ a.s.way ∧ a.s.way < (↑a.d.all.length : Int)) ∧ (0 + a.s.way.toNat).succ.le a.d.all.length) ∧ 0 = 0 ∧ (pushW a.m a.d.all a.s).length = a.d.all.length ∧ (↑a.d.out : Int) = (↑a.d.out
 : Int) ∧ (↑a.d.nR : Int) = (↑a.d.nR : Int) ∧ (pushW a.m a.d.all a.s).length = a.d.all.length ∧ (∀ (i : Nat), i < (pushW a.m a.d.all a.s).length → ((gD (pushW a.m a.d.all a.s) i).fr = bif decide (i = 0 + a.s.way.toNat)
 then (gD a.d.all (0 + a.s.way.toNat)).fr else (gD a.d.all i).fr) ∧ ((gD (pushW a.m a.d.all a.s) i).to = bif decide (i = 0 + a.s.way.toNat) then (gD a.d.all (0 + a.s.way.toNat)).to else (gD a.d.all i).to) ∧ ((gD (pushW
 a.m a.d.all a.s) i).sp.lo = bif decide (i = 0 + a.s.way.toNat) then (gD a.d.all (0 + a.s.way.toNat)).sp.lo else (gD a.d.all i).sp.lo) ∧ ((gD (pushW a.m a.d.all a.s) i).sp.hi = bif decide (i = 0 + a.s.way.toNat) then (gD
 a.d.all (0 + a.s.way.toNat)).sp.hi else (gD a.d.all i).sp.hi) ∧ (gD (pushW a.m a.d.all a.s) i).now = bif decide (i = 0 + a.s.way.toNat) then IntKind.i64.wrap ((gD a.d.all (0 + a.s.way.toNat)).now + a.m) else (gD a.d.all
 i).now) ∧ a.m = a.m) := by kernel_rfl
theorem pushW_length (m : Int) (l : List Way) (s : Step) : (pushW m l s).length = l.length := by simp [pushW]
theorem p108 (a : DSM) (h : 0 ≤ a.s.way ∧ a.s.way < a.d.all.length) : V108 a := by
  have hk : a.s.way.toNat < a.d.all.length := by omega
  rw [vc108]; simp only [condP, eq_self, implies_true, and_self, true_and, and_true, true_implies, forall_const, decide_eq_true_eq, decide_eq_false_iff_not, Int.toNat_natCast, dSpan_eSpan, dReach_eReach, dWay_eWay, dStep_eStep, dFar_eFar, dInt_eInt, Nat.zero_add, Int.zero_sub, Nat.le_eq, Nat.succ_eq_add_one, Nat.add_one_le_iff, Bool.not_eq_true', Bool.not_eq_false', rng_length, dSpan_mk, dReach_mk, dWay_mk, dStep_mk, dFar_mk, rng_getD, pushW_length]
  refine ⟨fun hb => ⟨⟨h, hk, h, hk⟩, fun i hi => ?_⟩, fun hb => ⟨⟨h, hk, h, hk⟩, fun i hi => ?_⟩⟩ <;> rw [pushW, gD_modify hk] <;> by_cases he : i = a.s.way.toNat <;> simp [he, hb]
theorem ok108 : SpecOk Try.prog 108 (C108.spec d108) := okC C108 (fun _ => A108) [] [] Try.func108 (fun _ => by kernel_rfl) (fun _ => gok_nil) p108 (fun _ => noI rfl rfl) _
def eInts10 (l : List Int) : DVal := .arr 1 10 fun i => eInt (gD l i)
structure KL where
  k : Nat
  l : List Int
  deriving Inhabited
def A94 (d : Desk) : Ann := { ann 34 [] with E := [100, 101], loops := fun id => if id = 3 then some [{ α := KL, dflt := default, T := fun s => ⟨[(2, .rptr 200 1 0 0), (3, .rptr 201 1 0 0), (10, .own 101 5 0 d.all.length), (11, .int d.all.length), (12, .int s.k)], deskK d ++ [(200, .live (.row 1 10 fun _ => eInt 0)), (201, .live (.row 1 10 fun i => eInt (gD s.l i)))]⟩, inv := fun s => s.k ≤ d.all.length ∧ s.l.length = 10 ∧ overM d = overW s.l (d.all.drop s.k), meas := fun s => d.all.length - s.k, first := [(200, 1000), (201, 2000)] }] else none }
def C94 : Ctr := { ro := [100, 101], α := Desk, xs := fun _ => [.bptr 100 0], L := deskL, val := fun d => .d (eInts10 (overM d)), keep := deskK, pre := fun d => [d.ok] }
def dDesk : List AVal → Heap → Option (Desk × List (Nat × Nat) × List Nat)
  | [.bptr id _], H => match decDesk H id with
    | some (d, r) => some (d, [(100, id), (101, r)], [])
    | none => none
  | _, _ => none
def V94 (d : Desk) : Prop := fnVC Try.prog (A94 d) Try.f94 (bodyOf Try.f94) (C94.xs d) (heapOf (C94.L d)) (C94.val d) (C94.keep d) [] []
abbrev z94_0 : Prop := (Value.agg #[Value.int IntKind.i64 (0 : Int), Value.int IntKind.i64 (0 : Int), Value.int IntKind.i64 (0 : Int), Value.int IntKind.i64 (0 : Int), Value.int IntKind.i64 (0 : Int), Value.int
 IntKind.i64 (0 : Int), Value.int IntKind.i64 (0 : Int), Value.int IntKind.i64 (0 : Int), Value.int IntKind.i64 (0 : Int), Value.int IntKind.i64 (0 : Int)]).cells.toList = (List.replicate (10 : Nat) (Value.int IntKind.i64
 (0 : Int)).cells.toList).flatten
abbrev z94_1 : Prop := (0 : Nat) = (0 : Nat)
abbrev z94_2 (d : Desk) : Prop := d.all.length = d.all.length
abbrev z94_3 (d : Desk) : Prop := (↑d.all.length : Int) = (↑d.all.length : Int)
abbrev z94_4 (d : Desk) : Prop := (↑d.out : Int) = (↑d.out : Int)
abbrev z94_5 (d : Desk) : Prop := (↑d.nR : Int) = (↑d.nR : Int)
abbrev z94_6 (d : Desk) : Prop := ∀ (i : Nat), i < d.all.length → (gD d.all i).fr = (gD d.all i).fr ∧ (gD d.all i).to = (gD d.all i).to ∧ (gD d.all i).sp.lo = (gD d.all i).sp.lo ∧ (gD d.all i).sp.hi = (gD d.all i).sp.hi
 ∧ (gD d.all i).now = (gD d.all i).now
abbrev z94_7 : Prop := (10 : Nat) = (10 : Nat)
abbrev z94_8 : Prop := ∀ (i : Nat), i < (10 : Nat) → Int.ofNat (0 : Nat) = Int.ofNat (0 : Nat)
abbrev z94_9 (a : KL) (d : Desk) : Prop := a.k ≤ d.all.length ∧ a.l.length = (10 : Nat) ∧ overM d = overW a.l (List.drop a.k d.all)
abbrev z94_10 (a : KL) (d : Desk) : Prop := (↑a.k : Int) < (↑d.all.length : Int)
abbrev z94_11 (a : KL) : Nat := (0 : Nat) + a.k
abbrev z94_12 (d : Desk) (a : KL) : Way := gD d.all (z94_11 a)
abbrev z94_13 (d : Desk) (a : KL) : Int := (z94_12 d a).fr
abbrev z94_14 (d : Desk) (a : KL) : Prop := (0 : Int) ≤ z94_13 d a ∧ z94_13 d a < (↑(10 : Nat) : Int)
abbrev z94_15 (d : Desk) (a : KL) : Nat := (z94_13 d a).toNat
abbrev z94_16 (d : Desk) (a : KL) : Int := (z94_12 d a).to
abbrev z94_17 (d : Desk) (a : KL) : Prop := (0 : Int) ≤ z94_16 d a ∧ z94_16 d a < (↑(10 : Nat) : Int)
abbrev z94_18 (d : Desk) (a : KL) : Nat := (z94_16 d a).toNat
abbrev z94_19 (d : Desk) (a : KL) : Int := (z94_12 d a).now
abbrev z94_20 (a : KL) (d : Desk) : Int := IntKind.i64.wrap (gD a.l (z94_15 d a) - z94_19 d a)
abbrev z94_21 (d : Desk) (a : KL) : Nat := d.all.length - a.k
theorem vc94 (d : Desk) : (V94 d) = (z94_0 ∧ z94_0 ∧ (∃ (a : KL), (z94_1 ∧ z94_1 ∧ z94_1 ∧ z94_2 d ∧ z94_3 d ∧ (↑a.k : Int) = (0 : Int) ∧ z94_1 ∧ z94_2 d ∧ z94_4 d ∧ z94_5 d ∧ z94_2 d ∧ z94_6 d ∧ z94_7 ∧ z94_8 ∧ z94_7 ∧
 ∀ (i : Nat), i < (10 : Nat) → gD a.l i = (0 : Int)) ∧ z94_9 a d) ∧ ∀ (a : KL), z94_9 a d → bif decide (z94_10 a d) then (((0 : Int) ≤ (↑a.k : Int) ∧ z94_10 a d) ∧ (z94_11 a).succ.le d.all.length) ∧ (z94_14 d a ∧ z94_15 d
 a < (10 : Nat) ∧ z94_14 d a ∧ (z94_15 d a).succ.le (10 : Nat)) ∧ (z94_17 d a ∧ z94_18 d a < (10 : Nat) ∧ z94_17 d a ∧ (z94_18 d a).succ.le (10 : Nat)) ∧ ∃ (a_2 : KL), (z94_1 ∧ z94_1 ∧ z94_1 ∧ z94_2 d ∧ z94_3 d ∧ (↑a_2.k
 : Int) = IntKind.i64.wrap ((↑a.k : Int) + (1 : Int)) ∧ z94_1 ∧ z94_2 d ∧ z94_4 d ∧ z94_5 d ∧ z94_2 d ∧ z94_6 d ∧ z94_7 ∧ z94_8 ∧ z94_7 ∧ ∀ (i : Nat), i < (10 : Nat) → gD a_2.l i = bif decide (i = z94_18 d a) then
 IntKind.i64.wrap ((bif decide (z94_18 d a = z94_15 d a) then z94_20 a d else gD a.l (z94_18 d a)) + z94_19 d a) else bif decide (i = z94_15 d a) then z94_20 a d else gD a.l i) ∧ z94_9 a_2 d ∧ z94_21 d a_2 < z94_21 d a
 else z94_7 ∧ (∀ (i : Nat), i < (10 : Nat) → gD (overM d) i = gD a.l i) ∧ z94_1 ∧ z94_2 d ∧ z94_4 d ∧ z94_5 d ∧ z94_2 d ∧ z94_6 d) := by kernel_rfl
theorem p94 (d : Desk) (h : d.ok) : V94 d := by
  have hL := h.len
  rw [vc94]; delta z94_0 z94_1 z94_2 z94_3 z94_4 z94_5 z94_6 z94_7 z94_8 z94_9 z94_10 z94_11 z94_12 z94_13 z94_14 z94_15 z94_16 z94_17 z94_18 z94_19 z94_20 z94_21; simp only [condP, eq_self, implies_true, and_self, true_and, and_true, true_implies, forall_const, decide_eq_true_eq, decide_eq_false_iff_not, Int.toNat_natCast, dSpan_eSpan, dReach_eReach, dWay_eWay, dStep_eStep, dFar_eFar, dInt_eInt, Nat.zero_add, Int.zero_sub, Nat.le_eq, Nat.succ_eq_add_one, Nat.add_one_le_iff, Bool.not_eq_true', Bool.not_eq_false', rng_length, dSpan_mk, dReach_mk, dWay_mk, dStep_mk, dFar_mk, rng_getD]
  refine ⟨rfl, rfl, ⟨⟨0, List.replicate 10 0⟩, ⟨rfl, ?_⟩, Nat.zero_le _, rfl, by simp [overM]⟩, fun a ⟨h1, h2, h3⟩ => ⟨fun hlt => ?_, fun hge => ?_⟩⟩
  · intro i hi; rw [gD_replicate, if_pos hi]
  · have hk : a.k < d.all.length := by omega
    obtain ⟨⟨e1, e2⟩, e3, e4⟩ := h.ends a.k hk
    have ho := h.out
    refine ⟨⟨⟨by omega, by omega⟩, hk⟩, ⟨⟨e1, by omega⟩, by omega, ⟨e1, by omega⟩, by omega⟩, ⟨⟨e3, by omega⟩, by omega, ⟨e3, by omega⟩, by omega⟩,
      ⟨a.k + 1, (a.l.modify (gD d.all a.k).fr.toNat fun x => wr (x - (gD d.all a.k).now)).modify (gD d.all a.k).to.toNat fun x => wr (x + (gD d.all a.k).now)⟩, ⟨(wsucc (by omega)).symm, fun i hi => ?_⟩, ⟨by show a.k + 1 ≤ _; omega, by simp [h2], ?_⟩, by show _ - (a.k + 1) < _; omega⟩
    · rw [gD_modify (by simp [h2]; omega), gD_modify (by omega), gD_modify (by omega)]
      by_cases x1 : i = (gD d.all a.k).to.toNat <;> by_cases x2 : (gD d.all a.k).to.toNat = (gD d.all a.k).fr.toNat <;> by_cases x3 : i = (gD d.all a.k).fr.toNat <;> simp [x1, x2, x3] <;> (try omega) <;> (try simp_all)
    · rw [h3, drop_gD hk]; rfl
  · intro i hi
    rw [h3, List.drop_eq_nil_of_le (by omega)]; rfl
theorem ok94 : SpecOk Try.prog 94 (C94.spec dDesk) := okC C94 A94 [] [] Try.func94 (fun _ => by kernel_rfl) (fun _ => gok_nil) p94 (fun _ => noI rfl rfl) _
end Go.Bal
