/- Package balance: small functions of a net at work. -/
import Derived.Test.YtonddbmhljelgaaBalA
import Derived.Test.YtonddbmhljelgaaBalM
set_option linter.unusedVariables false
set_option linter.unusedSimpArgs false
namespace Go.Bal
open Go Go.Sym Go.Proofs
def deskB (d : Desk) (r : Nat) : AObj := .box [.own r 5 0 d.all.length, .int d.out, .int d.nR]
def deskR (d : Desk) : AObj := .row 5 d.all.length fun i => eWay (gD d.all i)
def deskL (d : Desk) : List (Nat × AObj) := [(100, deskB d 101), (101, deskR d)]
def deskK (d : Desk) : List (Nat × HCell) := [(100, .live (deskB d 101)), (101, .live (deskR d))]
def decDesk (H : Heap) (id : Nat) : Option (Desk × Nat) := match H id with
  | .live (.box [.own r _ _ n, .d (.v (.int _ o)), .d (.v (.int _ q))]) => match H r with
    | .live (.row _ _ get) => some (⟨rng n fun i => dWay (get i), o.toNat, q.toNat⟩, r)
    | _ => none
  | _ => none
theorem okC (C : Ctr) (A : C.α → Ann) (ren : List (Nat × Nat)) (fz : List Nat) {g : FuncId} {fn : Func} (hf : Try.prog.funcs[g]? = some fn) (hok : ∀ a, okFn (A a) fn (C.xs a) (C.L a) (C.keep a) = true) (hΓ : ∀ a, GOk Try.prog (A a).Γ)
    (h : ∀ a, allP (C.pre a) → fnVC Try.prog (A a) fn (bodyOf fn) (C.xs a) (heapOf (C.L a)) (C.val a) (C.keep a) ren fz) (hI : ∀ a, IterOk Try.prog (A a)) (dec : List AVal → Heap → Option (C.α × List (Nat × Nat) × List Nat)) : SpecOk Try.prog g (C.spec dec) :=
  Ctr.spec_ok (fun a ha => fnt hf (hok a) (hΓ a) (h a ha) (hI a)) dec
def V98 (x : Int) (s : Span) : Prop := fnVC Try.prog (ann 14 []) Try.f98 (bodyOf Try.f98) [.int x, .d (eSpan s)] (heapOf []) (.int (offM x s)) [] [] []
theorem vc98 (x : Int) (s : Span) : (V98 x s) = (offM x s = maxI (maxI 0 (IntKind.i64.wrap (s.lo - x))) (IntKind.i64.wrap (x - s.hi))) := by kernel_rfl
def f98 : List AVal → Option (AVal × List Prop)
  | [.d (.v (.int .i64 x)), .d (.agg [.v (.int .i64 a), .v (.int .i64 b)])] => some (.int (offM x ⟨a, b⟩), [])
  | _ => none
def s98 := pureSpec f98
theorem maxI_eq (a b : Int) : maxI a b = max a b := by unfold maxI; split <;> omega
theorem minI_eq (a b : Int) : minI a b = min a b := by unfold minI; split <;> omega
theorem p98 (x : Int) (s : Span) : V98 x s := by
  rw [vc98]; simp only [maxI_eq]; rfl
theorem ok98 : SpecOk Try.prog 98 s98 := pureSpec_ok fun xs v p h _ => by
  unfold f98 at h; split at h
  · cases h; exact fnt (A := ann 14 []) (ren := []) (fz := []) Try.func98 (by kernel_rfl) gok_nil (p98 _ ⟨_, _⟩)
  · cases h
structure DS where
  d : Desk
  s : Step
def dDS : List AVal → Heap → Option (DS × List (Nat × Nat) × List Nat)
  | [.bptr id _, .d s], H => match decDesk H id with
    | some (d, r) => some (⟨d, dStep s⟩, [(100, id), (101, r)], [])
    | none => none
  | _, _ => none
def A85 : Ann := { ann 49 [] with E := [100, 101] }
def C85 : Ctr := { ro := [100, 101], α := DS, xs := fun a => [.bptr 100 0, .d (eStep a.s)], L := fun a => deskL a.d, val := fun a => .tup [.int (roomM (getW a.d.all a.s.way) a.s.back).1, .int (roomM (getW a.d.all a.s.way) a.s.back).2], keep := fun a => deskK a.d, pre := fun a => [0 ≤ a.s.way ∧ a.s.way < a.d.all.length] }
def V85 (a : DS) : Prop := fnVC Try.prog A85 Try.f85 (bodyOf Try.f85) (C85.xs a) (heapOf (C85.L a)) (C85.val a) (C85.keep a) [] []
abbrev z85_0 (a : DS) : Nat := 0 + a.s.way.toNat
abbrev z85_1 (a : DS) : Way := gD a.d.all (z85_0 a)
abbrev z85_2 (a : DS) : Int := (z85_1 a).now
abbrev z85_3 (a : DS) : Int := IntKind.i64.wrap (0 - z85_2 a)
abbrev z85_4 (a : DS) : Span := (z85_1 a).sp
abbrev z85_5 (a : DS) : Int := (z85_4 a).hi
abbrev z85_6 (a : DS) : Int := IntKind.i64.wrap (0 - z85_5 a)
abbrev z85_7 (a : DS) : Int × Int := roomM (getW a.d.all a.s.way) a.s.back
abbrev z85_8 (a : DS) : Int := (z85_7 a).fst
abbrev z85_9 (a : DS) : Prop := z85_8 a = -1
abbrev z85_10 (a : DS) : Int := (z85_7 a).snd
abbrev z85_11 (a : DS) : Prop := a.d.all.length = a.d.all.length
abbrev z85_12 (a : DS) : Prop := 0 = 0 ∧ z85_11 a ∧ (↑a.d.out : Int) = (↑a.d.out : Int) ∧ (↑a.d.nR : Int) = (↑a.d.nR : Int) ∧ z85_11 a ∧ ∀ (i : Nat), i < a.d.all.length → (gD a.d.all i).fr = (gD a.d.all i).fr ∧ (gD
 a.d.all i).to = (gD a.d.all i).to ∧ (gD a.d.all i).sp.lo = (gD a.d.all i).sp.lo ∧ (gD a.d.all i).sp.hi = (gD a.d.all i).sp.hi ∧ (gD a.d.all i).now = (gD a.d.all i).now
abbrev z85_13 (a : DS) : Int := (z85_4 a).lo
abbrev z85_14 (a : DS) : Int := IntKind.i64.wrap (0 - z85_13 a)
abbrev z85_15 (a : DS) : Prop := z85_8 a = 0
abbrev z85_16 (a : DS) : Prop := z85_8 a = 1 ∧ z85_10 a = 10000000000 ∧ z85_12 a
theorem vc85 (a : DS) : (V85 a) = (((0 ≤ a.s.way ∧ a.s.way < (↑a.d.all.length : Int)) ∧ (z85_0 a).succ.le a.d.all.length) ∧ bif a.s.back then bif decide (z85_3 a < z85_6 a) then z85_9 a ∧ z85_10 a = IntKind.i64.wrap
 (z85_6 a - z85_3 a) ∧ z85_12 a else bif decide (z85_3 a < z85_14 a) then z85_15 a ∧ z85_10 a = IntKind.i64.wrap (z85_14 a - z85_3 a) ∧ z85_12 a else z85_16 a else bif decide (z85_2 a < z85_13 a) then z85_9 a ∧ z85_10 a =
 IntKind.i64.wrap (z85_13 a - z85_2 a) ∧ z85_12 a else bif decide (z85_2 a < z85_5 a) then z85_15 a ∧ z85_10 a = IntKind.i64.wrap (z85_5 a - z85_2 a) ∧ z85_12 a else z85_16 a) := by kernel_rfl
theorem p85 (a : DS) (h : 0 ≤ a.s.way ∧ a.s.way < a.d.all.length) : V85 a := by
  rw [vc85]; delta z85_0 z85_1 z85_2 z85_3 z85_4 z85_5 z85_6 z85_7 z85_8 z85_9 z85_10 z85_11 z85_12 z85_13 z85_14 z85_15 z85_16; simp only [condP, eq_self, implies_true, and_self, true_and, and_true, true_implies, forall_const, decide_eq_true_eq, decide_eq_false_iff_not, Int.toNat_natCast, dSpan_eSpan, dReach_eReach, dWay_eWay, dStep_eStep, dFar_eFar, dInt_eInt, Nat.zero_add, Int.zero_sub, Nat.le_eq, Nat.succ_eq_add_one, Nat.add_one_le_iff, Bool.not_eq_true', Bool.not_eq_false', rng_length, dSpan_mk, dReach_mk, dWay_mk, dStep_mk, dFar_mk, rng_getD]
  refine ⟨⟨h, by omega⟩, fun hb => ⟨fun h1 => ?_, fun h1 => ⟨fun h2 => ?_, fun h2 => ?_⟩⟩, fun hb => ⟨fun h1 => ?_, fun h1 => ⟨fun h2 => ?_, fun h2 => ?_⟩⟩⟩ <;> simp [roomM, getW, *]
theorem ok85 : SpecOk Try.prog 85 (C85.spec dDS) := okC C85 (fun _ => A85) [] [] Try.func85 (fun _ => by kernel_rfl) (fun _ => gok_nil) p85 (fun _ => noI rfl rfl) _
def A87 : Ann := { ann 27 [] with E := [100, 101] }
def C87 : Ctr := { ro := [100, 101], α := DS, xs := fun a => [.bptr 100 0, .d (eStep a.s)], L := fun a => deskL a.d, val := fun a => .int (toM a.d a.s), keep := fun a => deskK a.d, pre := fun a => [0 ≤ a.s.way ∧ a.s.way < a.d.all.length] }
def V87 (a : DS) : Prop := fnVC Try.prog A87 Try.f87 (bodyOf Try.f87) (C87.xs a) (heapOf (C87.L a)) (C87.val a) (C87.keep a) [] []
theorem vc87 (a : DS) : (V87 a) = (bif a.s.back then ((0 ≤ a.s.way ∧ a.s.way < (↑a.d.all.length : Int)) ∧ (0 + a.s.way.toNat).succ.le a.d.all.length) ∧ toM a.d a.s = (gD a.d.all (0 + a.s.way.toNat)).fr ∧ 0 = 0 ∧
 a.d.all.length = a.d.all.length ∧ (↑a.d.out : Int) = (↑a.d.out : Int) ∧ (↑a.d.nR : Int) = (↑a.d.nR : Int) ∧ a.d.all.length = a.d.all.length ∧ ∀ (i : Nat), i < a.d.all.length → (gD a.d.all i).fr = (gD a.d.all i).fr ∧ (gD
 a.d.all i).to = (gD a.d.all i).to ∧ (gD a.d.all i).sp.lo = (gD a.d.all i).sp.lo ∧ (gD a.d.all i).sp.hi = (gD a.d.all i).sp.hi ∧ (gD a.d.all i).now = (gD a.d.all i).now else ((0 ≤ a.s.way ∧ a.s.way < (↑a.d.all.length :
 Int)) ∧ (0 + a.s.way.toNat).succ.le a.d.all.length) ∧ toM a.d a.s = (gD a.d.all (0 + a.s.way.toNat)).to ∧ 0 = 0 ∧ a.d.all.length = a.d.all.length ∧ (↑a.d.out : Int) = (↑a.d.out : Int) ∧ (↑a.d.nR : Int) = (↑a.d.nR : Int)
 ∧ a.d.all.length = a.d.all.length ∧ ∀ (i : Nat), i < a.d.all.length → (gD a.d.all i).fr = (gD a.d.all i).fr ∧ (gD a.d.all i).to = (gD a.d.all i).to ∧ (gD a.d.all i).sp.lo = (gD a.d.all i).sp.lo ∧ (gD a.d.all i).sp.hi =
 (gD a.d.all i).sp.hi ∧ (gD a.d.all i).now = (gD a.d.all i).now) := by kernel_rfl
theorem p87 (a : DS) (h : 0 ≤ a.s.way ∧ a.s.way < a.d.all.length) : V87 a := by
  rw [vc87]; simp only [condP, eq_self, implies_true, and_self, true_and, and_true, true_implies, forall_const, decide_eq_true_eq, decide_eq_false_iff_not, Int.toNat_natCast, dSpan_eSpan, dReach_eReach, dWay_eWay, dStep_eStep, dFar_eFar, dInt_eInt, Nat.zero_add, Int.zero_sub, Nat.le_eq, Nat.succ_eq_add_one, Nat.add_one_le_iff, Bool.not_eq_true', Bool.not_eq_false', rng_length, dSpan_mk, dReach_mk, dWay_mk, dStep_mk, dFar_mk, rng_getD]
  refine ⟨fun hb => ⟨⟨h, by omega⟩, ?_⟩, fun hb => ⟨⟨h, by omega⟩, ?_⟩⟩ <;> simp [toM, getW, hb]
theorem ok87 : SpecOk Try.prog 87 (C87.spec dDS) := okC C87 (fun _ => A87) [] [] Try.func87 (fun _ => by kernel_rfl) (fun _ => gok_nil) p87 (fun _ => noI rfl rfl) _
end Go.Bal
