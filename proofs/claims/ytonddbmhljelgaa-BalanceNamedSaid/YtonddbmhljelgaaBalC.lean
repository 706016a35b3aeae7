/- Package balance: push, over, who has too much. -/
import Derived.Test.YtonddbmhljelgaaBalB
set_option linter.unusedVariables false
set_option linter.unusedSimpArgs false
namespace Go.Bal
open Go Go.Sym Go.Proofs
def uV : AVal := .d (.tup [])
structure DSM where
  d : Desk
  s : Step
  m : Int
def A108 : Ann := { ann 34 [] with E := [100, 101, 102, 103] }
def C108 : Ctr := { ro := [100, 102, 103], α := DSM, xs := fun a => [.d (eStep a.s), .bptr 102 0, .bptr 103 0], L := fun a => deskL a.d ++ [(102, .box [.bptr 100 0]), (103, .box [.int a.m])], val := fun _ => uV, keep := fun a => deskK (Desk.mk (pushW a.m a.d.all a.s) a.d.out a.d.nR) ++ [(102, .live (.box [.bptr 100 0])), (103, .live (.box [.int a.m]))], pre := fun a => [0 ≤ a.s.way ∧ a.s.way < a.d.all.length] }
def d108 : List AVal → Heap → Option (DSM × List (Nat × Nat) × List Nat)
  | [.d s, .bptr p _, .bptr q _], H => match H p, H q with
    | .live (.box [.bptr id _]), .live (.box [.d (.v (.int _ m))]) => match decDesk H id with
      | some (d, r) => some (⟨d, dStep s, m⟩, [(100, id), (101, r), (102, p), (103, q)], [])
      | none => none
    | _, _ => none
  | _, _ => none
def V108 (a : DSM) : Prop := fnVC Try.prog A108 Try.f108 (bodyOf Try.f108) (C108.xs a) (heapOf (C108.L a)) (C108.val a) (C108.keep a) [] []
theorem vc108 (a : DSM) : (V108 a) = (bif a.s.back then ((0 ≤ a.s.way ∧ a.s.way < (↑a.d.all.length : Int)) ∧ 0 + a.s.way.toNat < a.d.all.length ∧ (0 ≤ a.s.way ∧ a.s.way < (↑a.d.all.length : Int)) ∧ (0 +
 a.s.way.toNat).succ.le a.d.all.length) ∧ 0 = 0 ∧ (pushW a.m a.d.all a.s).length = a.d.all.length ∧ (↑a.d.out : Int) = (↑a.d.out : Int) ∧ (↑a.d.nR : Int) = (↑a.d.nR : Int) ∧ (pushW a.m a.d.all a.s).length = a.d.all.length
 ∧ (∀ (i : Nat), i < (pushW a.m a.d.all a.s).length → ((gD (pushW a.m a.d.all a.s) i).fr = bif decide (i = 0 + a.s.way.toNat) then (gD a.d.all (0 + a.s.way.toNat)).fr else (gD a.d.all i).fr) ∧ ((gD (pushW a.m a.d.all a.s)
 i).to = bif decide (i = 0 + a.s.way.toNat) then (gD a.d.all (0 + a.s.way.toNat)).to else (gD a.d.all i).to) ∧ ((gD (pushW a.m a.d.all a.s) i).sp.lo = bif decide (i = 0 + a.s.way.toNat) then (gD a.d.all (0 +
 a.s.way.toNat)).sp.lo else (gD a.d.all i).sp.lo) ∧ ((gD (pushW a.m a.d.all a.s) i).sp.hi = bif decide (i = 0 + a.s.way.toNat) then (gD a.d.all (0 + a.s.way.toNat)).sp.hi else (gD a.d.all i).sp.hi) ∧ (gD (pushW a.m
 a.d.all a.s) i).now = bif decide (i = 0 + a.s.way.toNat) then IntKind.i64.wrap ((gD a.d.all (0 + a.s.way.toNat)).now - a.m) else (gD a.d.all i).now) ∧ a.m = a.m else ((0 ≤ a.s.way ∧ a.s.way < (↑a.d.all.length : Int)) ∧ 0
 + a.s.way.toNat < a.d.all.length ∧ (0 ≤ a.s.way ∧ a.s.way < (↑a.d.all.length : Int)) ∧ (0 + a.s.way.toNat).succ.le a.d.all.length) ∧ 0 = 0 ∧ (pushW a.m a.d.all a.s).length = a.d.all.length ∧ (↑a.d.out : Int) = (↑a.d.out
 : Int) ∧ (↑a.d.nR : Int) = (↑a.d.nR : Int) ∧ (pushW a.m a.d.all a.s).length = a.d.all.length ∧ (∀ (i : Nat), i < (pushW a.m a.d.all a.s).length → ((gD (pushW a.m a.d.all a.s) i).fr = bif decide (i = 0 + a.s.way.toNat)
 then (gD a.d.all (0 + a.s.way.toNat)).fr else (gD a.d.all i).fr) ∧ ((gD (pushW a.m a.d.all a.s) i).to = bif decide (i = 0 + a.s.way.toNat) then (gD a.d.all (0 + a.s.way.toNat)).to else (gD a.d.all i).to) ∧ ((gD (pushW
 a.m a.d.all a.s) i).sp.lo = bif decide (i = 0 + a.s.way.toNat) then (gD a.d.all (0 + a.s.way.toNat)).sp.lo else (gD a.d.all i).sp.lo) ∧ ((gD (pushW a.m a.d.all a.s) i).sp.hi = bif decide (i = 0 + a.s.way.toNat) then (gD
 a.d.all (0 + a.s.way.toNat)).sp.hi else (gD a.d.all i).sp.hi) ∧ (gD (pushW a.m a.d.all a.s) i).now = bif decide (i = 0 + a.s.way.toNat) then IntKind.i64.wrap ((gD a.d.all (0 + a.s.way.toNat)).now + a.m) else (gD a.d.all
 i).now) ∧ a.m = a.m) := by kernel_rfl
theorem pushW_length (m : Int) (l : List Way) (s : Step) : (pushW m l s).length = l.length := by simp [pushW]
theorem p108 (a : DSM) (h : 0 ≤ a.s.way ∧ a.s.way < a.d.all.length) : V108 a := by
  have hk : a.s.way.toNat < a.d.all.length := by omega
  rw [vc108]; simp only [condP, eq_self, implies_true, and_self, true_and, and_true, true_implies, forall_const, decide_eq_true_eq, decide_eq_false_iff_not, Int.toNat_natCast, dSpan_eSpan, dReach_eReach, dWay_eWay, dStep_eStep, dFar_eFar, dInt_eInt, Nat.zero_add, Int.zero_sub, Nat.le_eq, Nat.succ_eq_add_one, Nat.add_one_le_iff, Bool.not_eq_true', Bool.not_eq_false', rng_length, dSpan_mk, dReach_mk, dWay_mk, dStep_mk, dFar_mk, rng_getD, pushW_length]
  refine ⟨fun hb => ⟨⟨h, hk, h, hk⟩, fun i hi => ?_⟩, fun hb => ⟨⟨h, hk, h, hk⟩, fun i hi => ?_⟩⟩ <;> rw [pushW, gD_modify hk] <;> by_cases he : i = a.s.way.toNat <;> simp [he, hb]
theorem ok108 : SpecOk Try.prog 108 (C108.spec d108) := okC C108 (fun _ => A108) [] [] Try.func108 (fun _ => by kernel_rfl) (fun _ => gok_nil) p108 (fun _ => noI rfl rfl) _
def eInts10 (l : List Int) : DVal := .arr 1 10 fun i => eInt (gD l i)
structure KL where
  k : Nat
  l : List Int
  deriving Inhabited
def A94 (d : Desk) : Ann := { ann 34 [] with E := [100, 101], loops := fun id => if id = 3 then some [{ α := KL, dflt := default, T := fun s => ⟨[(2, .rptr 200 1 0 0), (3, .rptr 201 1 0 0), (10, .own 101 5 0 d.all.length), (11, .int d.all.length), (12, .int s.k)], deskK d ++ [(200, .live (.row 1 10 fun _ => eInt 0)), (201, .live (.row 1 10 fun i => eInt (gD s.l i)))]⟩, inv := fun s => s.k ≤ d.all.length ∧ s.l.length = 10 ∧ overM d = overW s.l (d.all.drop s.k), meas := fun s => d.all.length - s.k, first := [(200, 1000), (201, 2000)] }] else none }
def C94 : Ctr := { ro := [100, 101], α := Desk, xs := fun _ => [.bptr 100 0], L := deskL, val := fun d => .d (eInts10 (overM d)), keep := deskK, pre := fun d => [d.ok] }
def dDesk : List AVal → Heap → Option (Desk × List (Nat × Nat) × List Nat)
  | [.bptr id _], H => match decDesk H id with
    | some (d, r) => some (d, [(100, id), (101, r)], [])
    | none => none
  | _, _ => none
def V94 (d : Desk) : Prop := fnVC Try.prog (A94 d) Try.f94 (bodyOf Try.f94) (C94.xs d) (heapOf (C94.L d)) (C94.val d) (C94.keep d) [] []
abbrev z94_0 : Prop := (Value.agg #[Value.int IntKind.i64 (0 : Int), Value.int IntKind.i64 (0 : Int), Value.int IntKind.i64 (0 : Int), Value.int IntKind.i64 (0 : Int), Value.int IntKind.i64 (0 : Int), Value.int
 IntKind.i64 (0 : Int), Value.int IntKind.i64 (0 : Int), Value.int IntKind.i64 (0 : Int), Value.int IntKind.i64 (0 : Int), Value.int IntKind.i64 (0 : Int)]).cells.toList = (List.replicate (10 : Nat) (Value.int IntKind.i64
 (0 : Int)).cells.toList).flatten
abbrev z94_1 : Prop := (0 : Nat) = (0 : Nat)
abbrev z94_2 (d : Desk) : Prop := d.all.length = d.all.length
abbrev z94_3 (d : Desk) : Prop := (↑d.all.length : Int) = (↑d.all.length : Int)
abbrev z94_4 (d : Desk) : Prop := (↑d.out : Int) = (↑d.out : Int)
abbrev z94_5 (d : Desk) : Prop := (↑d.nR : Int) = (↑d.nR : Int)
abbrev z94_6 (d : Desk) : Prop := ∀ (i : Nat), i < d.all.length → (gD d.all i).fr = (gD d.all i).fr ∧ (gD d.all i).to = (gD d.all i).to ∧ (gD d.all i).sp.lo = (gD d.all i).sp.lo ∧ (gD d.all i).sp.hi = (gD d.all i).sp.hi
 ∧ (gD d.all i).now = (gD d.all i).now
abbrev z94_7 : Prop := (10 : Nat) = (10 : Nat)
abbrev z94_8 : Prop := ∀ (i : Nat), i < (10 : Nat) → Int.ofNat (0 : Nat) = Int.ofNat (0 : Nat)
abbrev z94_9 (a : KL) (d : Desk) : Prop := a.k ≤ d.all.length ∧ a.l.length = (10 : Nat) ∧ overM d = overW a.l (List.drop a.k d.all)
abbrev z94_10 (a : KL) (d : Desk) : Prop := (↑a.k : Int) < (↑d.all.length : Int)
abbrev z94_11 (a : KL) : Nat := (0 : Nat) + a.k
abbrev z94_12 (d : Desk) (a : KL) : Way := gD d.all (z94_11 a)
abbrev z94_13 (d : Desk) (a : KL) : Int := (z94_12 d a).fr
abbrev z94_14 (d : Desk) (a : KL) : Prop := (0 : Int) ≤ z94_13 d a ∧ z94_13 d a < (↑(10 : Nat) : Int)
abbrev z94_15 (d : Desk) (a : KL) : Nat := (z94_13 d a).toNat
abbrev z94_16 (d : Desk) (a : KL) : Int := (z94_12 d a).to
abbrev z94_17 (d : Desk) (a : KL) : Prop := (0 : Int) ≤ z94_16 d a ∧ z94_16 d a < (↑(10 : Nat) : Int)
abbrev z94_18 (d : Desk) (a : KL) : Nat := (z94_16 d a).toNat
abbrev z94_19 (d : Desk) (a : KL) : Int := (z94_12 d a).now
abbrev z94_20 (a : KL) (d : Desk) : Int := IntKind.i64.wrap (gD a.l (z94_15 d a) - z94_19 d a)
abbrev z94_21 (d : Desk) (a : KL) : Nat := d.all.length - a.k
theorem vc94 (d : Desk) : (V94 d) = (z94_0 ∧ z94_0 ∧ (∃ (a : KL), (z94_1 ∧ z94_1 ∧ z94_1 ∧ z94_2 d ∧ z94_3 d ∧ (↑a.k : Int) = (0 : Int) ∧ z94_1 ∧ z94_2 d ∧ z94_4 d ∧ z94_5 d ∧ z94_2 d ∧ z94_6 d ∧ z94_7 ∧ z94_8 ∧ z94_7 ∧
 ∀ (i : Nat), i < (10 : Nat) → gD a.l i = (0 : Int)) ∧ z94_9 a d) ∧ ∀ (a : KL), z94_9 a d → bif decide (z94_10 a d) then (((0 : Int) ≤ (↑a.k : Int) ∧ z94_10 a d) ∧ (z94_11 a).succ.le d.all.length) ∧ (z94_14 d a ∧ z94_15 d
 a < (10 : Nat) ∧ z94_14 d a ∧ (z94_15 d a).succ.le (10 : Nat)) ∧ (z94_17 d a ∧ z94_18 d a < (10 : Nat) ∧ z94_17 d a ∧ (z94_18 d a).succ.le (10 : Nat)) ∧ ∃ (a_2 : KL), (z94_1 ∧ z94_1 ∧ z94_1 ∧ z94_2 d ∧ z94_3 d ∧ (↑a_2.k
 : Int) = IntKind.i64.wrap ((↑a.k : Int) + (1 : Int)) ∧ z94_1 ∧ z94_2 d ∧ z94_4 d ∧ z94_5 d ∧ z94_2 d ∧ z94_6 d ∧ z94_7 ∧ z94_8 ∧ z94_7 ∧ ∀ (i : Nat), i < (10 : Nat) → gD a_2.l i = bif decide (i = z94_18 d a) then
 IntKind.i64.wrap ((bif decide (z94_18 d a = z94_15 d a) then z94_20 a d else gD a.l (z94_18 d a)) + z94_19 d a) else bif decide (i = z94_15 d a) then z94_20 a d else gD a.l i) ∧ z94_9 a_2 d ∧ z94_21 d a_2 < z94_21 d a
 else z94_7 ∧ (∀ (i : Nat), i < (10 : Nat) → gD (overM d) i = gD a.l i) ∧ z94_1 ∧ z94_2 d ∧ z94_4 d ∧ z94_5 d ∧ z94_2 d ∧ z94_6 d) := by kernel_rfl
theorem p94 (d : Desk) (h : d.ok) : V94 d := by
  have hL := h.len
  rw [vc94]; delta z94_0 z94_1 z94_2 z94_3 z94_4 z94_5 z94_6 z94_7 z94_8 z94_9 z94_10 z94_11 z94_12 z94_13 z94_14 z94_15 z94_16 z94_17 z94_18 z94_19 z94_20 z94_21; simp only [condP, eq_self, implies_true, and_self, true_and, and_true, true_implies, forall_const, decide_eq_true_eq, decide_eq_false_iff_not, Int.toNat_natCast, dSpan_eSpan, dReach_eReach, dWay_eWay, dStep_eStep, dFar_eFar, dInt_eInt, Nat.zero_add, Int.zero_sub, Nat.le_eq, Nat.succ_eq_add_one, Nat.add_one_le_iff, Bool.not_eq_true', Bool.not_eq_false', rng_length, dSpan_mk, dReach_mk, dWay_mk, dStep_mk, dFar_mk, rng_getD]
  refine ⟨rfl, rfl, ⟨⟨0, List.replicate 10 0⟩, ⟨rfl, ?_⟩, Nat.zero_le _, rfl, by simp [overM]⟩, fun a ⟨h1, h2, h3⟩ => ⟨fun hlt => ?_, fun hge => ?_⟩⟩
  · intro i hi; rw [gD_replicate, if_pos hi]
  · have hk : a.k < d.all.length := by omega
    obtain ⟨⟨e1, e2⟩, e3, e4⟩ := h.ends a.k hk
    have ho := h.out
    refine ⟨⟨⟨by omega, by omega⟩, hk⟩, ⟨⟨e1, by omega⟩, by omega, ⟨e1, by omega⟩, by omega⟩, ⟨⟨e3, by omega⟩, by omega, ⟨e3, by omega⟩, by omega⟩,
      ⟨a.k + 1, (a.l.modify (gD d.all a.k).fr.toNat fun x => wr (x - (gD d.all a.k).now)).modify (gD d.all a.k).to.toNat fun x => wr (x + (gD d.all a.k).now)⟩, ⟨(wsucc (by omega)).symm, fun i hi => ?_⟩, ⟨by show a.k + 1 ≤ _; omega, by simp [h2], ?_⟩, by show _ - (a.k + 1) < _; omega⟩
    · rw [gD_modify (by simp [h2]; omega), gD_modify (by omega), gD_modify (by omega)]
      by_cases x1 : i = (gD d.all a.k).to.toNat <;> by_cases x2 : (gD d.all a.k).to.toNat = (gD d.all a.k).fr.toNat <;> by_cases x3 : i = (gD d.all a.k).fr.toNat <;> simp [x1, x2, x3] <;> (try omega) <;> (try simp_all)
    · rw [h3, drop_gD hk]; rfl
  · intro i hi
    rw [h3, List.drop_eq_nil_of_le (by omega)]; rfl
theorem ok94 : SpecOk Try.prog 94 (C94.spec dDesk) := okC C94 A94 [] [] Try.func94 (fun _ => by kernel_rfl) (fun _ => gok_nil) p94 (fun _ => noI rfl rfl) _
end Go.Bal
