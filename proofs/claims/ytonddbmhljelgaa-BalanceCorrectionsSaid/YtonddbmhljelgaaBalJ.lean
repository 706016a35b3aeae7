/- Package balance: copied, span, settled, fitting. -/
import Derived.Test.YtonddbmhljelgaaBalI
set_option linter.unusedVariables false
set_option linter.unusedSimpArgs false
namespace Go.Bal
open Go Go.Sym Go.Proofs
structure NW where
  n : Nat
  g : Nat → Way
def rowW (n : Nat) (g : Nat → Way) : AObj := .row 5 n fun i => eWay (g i)
def A100 : Ann := { ann 8 [] with E := [100], mt := fun id => id == 3 }
def C100 : Ctr := { ro := [100], α := NW, xs := fun a => [.own 100 5 0 a.n], L := fun a => [(100, rowW a.n a.g)], val := fun a => .own 0 5 0 a.n, keep := fun a => [(100, .live (rowW a.n a.g)), (0, .live (rowW a.n a.g))], pre := fun a => [0 < a.n ∧ a.n ≤ 1000] }
def d100 : List AVal → Heap → Option (NW × List (Nat × Nat) × List Nat)
  | [.own id _ _ n], H => match H id with
    | .live (.row _ _ get) => some (⟨n, fun i => dWay (get i)⟩, [(100, id)], [])
    | _ => none
  | _, _ => none
def V100 (a : NW) : Prop := fnVC Try.prog A100 Try.f100 (bodyOf Try.f100) (C100.xs a) (heapOf (C100.L a)) (C100.val a) (C100.keep a) [(0, 4032)] []
theorem vc100 (a : NW) : (V100 a) = (((0 = 0 ∧ (0 < 0 → 5 = 5)) ∧ (0 + a.n ≤ a.n ∧ (0 < a.n → 5 = 5)) ∧ (false = true → 0 < a.n) ∧ 0 + a.n ≤ 9223372036854775807 ∧ (0 + a.n) * 40 ≤ 140737488355328) ∧ 0 = 0 ∧ a.n = 0 + a.n
 ∧ a.n = a.n ∧ (∀ (i : Nat), i < a.n → (a.g i).fr = (a.g i).fr ∧ (a.g i).to = (a.g i).to ∧ (a.g i).sp.lo = (a.g i).sp.lo ∧ (a.g i).sp.hi = (a.g i).sp.hi ∧ (a.g i).now = (a.g i).now) ∧ a.n = 0 + a.n ∧ ∀ (i : Nat), i < a.n
 → (a.g i).fr = (a.g (0 + (i - 0))).fr ∧ (a.g i).to = (a.g (0 + (i - 0))).to ∧ (a.g i).sp.lo = (a.g (0 + (i - 0))).sp.lo ∧ (a.g i).sp.hi = (a.g (0 + (i - 0))).sp.hi ∧ (a.g i).now = (a.g (0 + (i - 0))).now) := by
 kernel_rfl
theorem p100 (a : NW) (h : 0 < a.n ∧ a.n ≤ 1000) : V100 a := by
  rw [vc100]; simp only [condP, eq_self, implies_true, and_self, true_and, and_true, true_implies, forall_const, decide_eq_true_eq, decide_eq_false_iff_not, Int.toNat_natCast, dSpan_eSpan, dReach_eReach, dWay_eWay, dStep_eStep, dFar_eFar, dInt_eInt, Nat.zero_add, Int.zero_sub, Nat.le_eq, Nat.succ_eq_add_one, Nat.add_one_le_iff, Bool.not_eq_true', Bool.not_eq_false', rng_length, dSpan_mk, dReach_mk, dWay_mk, dStep_mk, dFar_mk, rng_getD]
  exact ⟨⟨Nat.le_refl _, fun _ => h.1, by omega, by omega⟩, fun _ _ => ⟨rfl, rfl, rfl, rfl, rfl⟩⟩
theorem ok100 : SpecOk Try.prog 100 (C100.spec d100) := okC C100 (fun _ => A100) [(0, 4032)] [] Try.func100 (fun _ => by kernel_rfl) (fun _ => gok_nil) p100 (fun _ => noI rfl rfl) _
def A75 : Ann := { ann 21 [(100, C100.spec d100)] with E := [100, 101] }
def C75 : Ctr := { ro := [100, 101], α := Desk, xs := fun _ => [.bptr 100 0], L := deskL, val := fun _ => .bptr 0 0, keep := fun d => deskK d ++ [(0, .live (deskB d 1)), (1, .live (deskR d))], pre := fun d => [0 < d.all.length ∧ d.all.length ≤ 1000] }
def V75 (d : Desk) : Prop := fnVC Try.prog A75 Try.f75 (bodyOf Try.f75) (C75.xs d) (heapOf (C75.L d)) (C75.val d) (C75.keep d) [(0, 2272), (1, 2080)] []
theorem vc75 (d : Desk) : (V75 d) = ((0 = 0 ∧ d.all.length = d.all.length ∧ d.all.length = d.all.length ∧ (∀ (i : Nat), i < d.all.length → (gD d.all i).fr = (gD d.all i).fr ∧ (gD d.all i).to = (gD d.all i).to ∧ (gD d.all
 i).sp.lo = (gD d.all i).sp.lo ∧ (gD d.all i).sp.hi = (gD d.all i).sp.hi ∧ (gD d.all i).now = (gD d.all i).now) ∧ d.all.length = d.all.length ∧ (∀ (i : Nat), i < d.all.length → (gD d.all i).fr = (gD d.all i).fr ∧ (gD
 d.all i).to = (gD d.all i).to ∧ (gD d.all i).sp.lo = (gD d.all i).sp.lo ∧ (gD d.all i).sp.hi = (gD d.all i).sp.hi ∧ (gD d.all i).now = (gD d.all i).now) ∧ 0 < d.all.length ∧ d.all.length ≤ 1000) ∧ 0 = 0 ∧ d.all.length =
 d.all.length ∧ (↑d.out : Int) = (↑d.out : Int) ∧ (↑d.nR : Int) = (↑d.nR : Int) ∧ d.all.length = d.all.length ∧ (∀ (i : Nat), i < d.all.length → (gD d.all i).fr = (gD d.all i).fr ∧ (gD d.all i).to = (gD d.all i).to ∧ (gD
 d.all i).sp.lo = (gD d.all i).sp.lo ∧ (gD d.all i).sp.hi = (gD d.all i).sp.hi ∧ (gD d.all i).now = (gD d.all i).now) ∧ 0 = 0 ∧ d.all.length = d.all.length ∧ (↑d.out : Int) = (↑d.out : Int) ∧ (↑d.nR : Int) = (↑d.nR : Int)
 ∧ d.all.length = d.all.length ∧ ∀ (i : Nat), i < d.all.length → (gD d.all i).fr = (gD d.all i).fr ∧ (gD d.all i).to = (gD d.all i).to ∧ (gD d.all i).sp.lo = (gD d.all i).sp.lo ∧ (gD d.all i).sp.hi = (gD d.all i).sp.hi ∧
 (gD d.all i).now = (gD d.all i).now) := by kernel_rfl
theorem p75 (d : Desk) (h : 0 < d.all.length ∧ d.all.length ≤ 1000) : V75 d := by
  rw [vc75]; simp only [condP, eq_self, implies_true, and_self, true_and, and_true, true_implies, forall_const, decide_eq_true_eq, decide_eq_false_iff_not, Int.toNat_natCast, dSpan_eSpan, dReach_eReach, dWay_eWay, dStep_eStep, dFar_eFar, dInt_eInt, Nat.zero_add, Int.zero_sub, Nat.le_eq, Nat.succ_eq_add_one, Nat.add_one_le_iff, Bool.not_eq_true', Bool.not_eq_false', rng_length, dSpan_mk, dReach_mk, dWay_mk, dStep_mk, dFar_mk, rng_getD]
  exact h
theorem ok75 : SpecOk Try.prog 75 (C75.spec dDesk) := okC C75 (fun _ => A75) [(0, 2272), (1, 2080)] [] Try.func75 (fun _ => by kernel_rfl) (fun _ => gok_cons ok100 gok_nil) p75 (fun _ => noI rfl rfl) _
structure DI where
  d : Desk
  at' : Int
def dDI : List AVal → Heap → Option (DI × List (Nat × Nat) × List Nat)
  | [.bptr id _, .d (.v (.int _ q))], H => match decDesk H id with
    | some (d, r) => some (⟨d, q⟩, [(100, id), (101, r)], [])
    | none => none
  | _, _ => none
def A74 : Ann := { ann 36 [(75, C75.spec dDesk), (77, C77.spec d77)] with E := [100, 101] }
def C74 : Ctr := { ro := [100, 101], α := DI, xs := fun a => [.bptr 100 0, .int a.at'], L := fun a => deskL a.d, val := fun a => .d (eSpan ((spanV a.d a.at').getD default)), keep := fun a => deskK a.d, pre := fun a => [a.d.ok, 0 ≤ a.at' ∧ a.at' < a.d.all.length, (spanV a.d a.at').isSome = true] }
def V74 (a : DI) : Prop := fnVC Try.prog A74 Try.f74 (bodyOf Try.f74) (C74.xs a) (heapOf (C74.L a)) (C74.val a) (C74.keep a) [] []
abbrev z74_0 : Prop := (0 : Nat) = (0 : Nat)
abbrev z74_1 (a : DI) : List Way := rng a.d.all.length fun (i : Nat) => gD a.d.all i
abbrev z74_2 (a : DI) : Nat := (z74_1 a).length
abbrev z74_3 (a : DI) : Prop := z74_2 a = a.d.all.length
abbrev z74_4 (a : DI) : Prop := (↑a.d.out : Int) = (↑a.d.out : Int)
abbrev z74_5 (a : DI) : Prop := (↑a.d.nR : Int) = (↑a.d.nR : Int)
abbrev z74_6 (a : DI) (i : Nat) : Way := gD (z74_1 a) i
abbrev z74_7 (a : DI) (i : Nat) : Int := (z74_6 a i).fr
abbrev z74_8 (a : DI) (i : Nat) : Int := (z74_6 a i).to
abbrev z74_9 (a : DI) (i : Nat) : Span := (z74_6 a i).sp
abbrev z74_10 (a : DI) (i : Nat) : Int := (z74_9 a i).lo
abbrev z74_11 (a : DI) (i : Nat) : Int := (z74_9 a i).hi
abbrev z74_12 (a : DI) (i : Nat) : Int := (z74_6 a i).now
abbrev z74_13 (a : DI) : Prop := ∀ (i : Nat), i < z74_2 a → z74_7 a i = (gD a.d.all i).fr ∧ z74_8 a i = (gD a.d.all i).to ∧ z74_10 a i = (gD a.d.all i).sp.lo ∧ z74_11 a i = (gD a.d.all i).sp.hi ∧ z74_12 a i = (gD a.d.all
 i).now
abbrev z74_14 (a : DI) : Prop := a.d.all.length = z74_2 a
abbrev z74_15 (a : DI) : Prop := ∀ (i : Nat), i < a.d.all.length → (gD a.d.all i).fr = z74_7 a i ∧ (gD a.d.all i).to = z74_8 a i ∧ (gD a.d.all i).sp.lo = z74_10 a i ∧ (gD a.d.all i).sp.hi = z74_11 a i ∧ (gD a.d.all
 i).now = z74_12 a i
abbrev z74_16 (a : DI) : Prop := (0 : Nat) < z74_2 a ∧ z74_2 a ≤ (1000 : Nat)
abbrev z74_17 : Prop := (100000000 : Int) = Int.ofNat (100000000 : Nat)
abbrev z74_18 (a : DI) : List Way := rng (z74_2 a) fun (i : Nat) => z74_6 a i
abbrev z74_19 (a : DI) : Nat := (z74_18 a).length
abbrev z74_20 (a : DI) : Prop := z74_19 a = z74_2 a
abbrev z74_21 (a : DI) (i : Nat) : Way := gD (z74_18 a) i
abbrev z74_22 (a : DI) (i : Nat) : Span := (z74_21 a i).sp
abbrev z74_23 (a : DI) : Prop := ∀ (i : Nat), i < z74_19 a → (z74_21 a i).fr = z74_7 a i ∧ (z74_21 a i).to = z74_8 a i ∧ (z74_22 a i).lo = z74_10 a i ∧ (z74_22 a i).hi = z74_11 a i ∧ (z74_21 a i).now = z74_12 a i
abbrev z74_24 (a : DI) : Desk := Desk.mk (z74_18 a) a.d.out a.d.nR
abbrev z74_25 (a : DI) : Prop := (z74_24 a).ok
abbrev z74_26 (a : DI) : Prop := (0 : Int) ≤ a.at'
abbrev z74_27 (a : DI) : Prop := z74_26 a ∧ a.at' < (↑(z74_19 a) : Int)
abbrev z74_28 (a : DI) : List Way := (SA.mk (z74_24 a) a.at' false (100000000 : Int)).res.fst.all
abbrev z74_29 (a : DI) : Nat := (z74_28 a).length
abbrev z74_30 (a : DI) : Nat := (0 : Nat) + a.at'.toNat
abbrev z74_31 (a : DI) : List Way := (SA.mk (z74_24 a) a.at' true (100000000 : Int)).res.fst.all
abbrev z74_32 (a : DI) : Nat := (z74_31 a).length
abbrev z74_33 (a : DI) : Span := (spanV a.d a.at').getD default
abbrev z74_34 (a : DI) : Prop := a.d.all.length = a.d.all.length
theorem vc74 (a : DI) : (V74 a) = ((z74_0 ∧ z74_3 a ∧ z74_4 a ∧ z74_5 a ∧ z74_3 a ∧ z74_13 a ∧ z74_0 ∧ z74_14 a ∧ z74_4 a ∧ z74_5 a ∧ z74_14 a ∧ z74_15 a ∧ z74_16 a ∧ z74_0 ∧ z74_3 a ∧ z74_4 a ∧ z74_5 a ∧ z74_3 a ∧
 z74_13 a ∧ z74_0 ∧ z74_14 a ∧ z74_4 a ∧ z74_5 a ∧ z74_14 a ∧ z74_15 a ∧ z74_16 a) ∧ (a.at' = a.at' ∧ false = false ∧ z74_17 ∧ z74_0 ∧ z74_20 a ∧ z74_4 a ∧ z74_5 a ∧ z74_20 a ∧ z74_23 a ∧ z74_25 a ∧ z74_27 a ∧ (shiftV
 (z74_24 a) a.at' false (100000000 : Int)).isSome = true) ∧ (a.at' = a.at' ∧ true = true ∧ z74_17 ∧ z74_0 ∧ z74_20 a ∧ z74_4 a ∧ z74_5 a ∧ z74_20 a ∧ z74_23 a ∧ z74_25 a ∧ z74_27 a ∧ (shiftV (z74_24 a) a.at' true
 (100000000 : Int)).isSome = true) ∧ ((z74_26 a ∧ a.at' < (↑(z74_29 a) : Int)) ∧ z74_30 a < z74_29 a ∧ (z74_26 a ∧ a.at' < (↑(z74_32 a) : Int)) ∧ (z74_30 a).succ.le (z74_32 a)) ∧ (z74_33 a).lo = (gD (z74_28 a) (z74_30
 a)).now ∧ (z74_33 a).hi = (gD (z74_31 a) (z74_30 a)).now ∧ z74_0 ∧ z74_34 a ∧ z74_4 a ∧ z74_5 a ∧ z74_34 a ∧ ∀ (i : Nat), i < a.d.all.length → (gD a.d.all i).fr = (gD a.d.all i).fr ∧ (gD a.d.all i).to = (gD a.d.all i).to
 ∧ (gD a.d.all i).sp.lo = (gD a.d.all i).sp.lo ∧ (gD a.d.all i).sp.hi = (gD a.d.all i).sp.hi ∧ (gD a.d.all i).now = (gD a.d.all i).now) := by kernel_rfl
theorem movedM_len {d d' : Desk} {fr to most q : Int} {m : Map} (h : movedM d fr to m most = some (d', q)) : d'.all.length = d.all.length ∧ d'.out = d.out ∧ d'.nR = d.nR := by
  unfold movedM at h
  split at h
  · cases h
  · split at h
    · cases h; exact ⟨pushAll_len _ _ _, rfl, rfl⟩
    · cases h
theorem shiftM_len {at' : Int} {up : Bool} {most : Int} : ∀ {k : Nat} {d d' : Desk} {t t' : Int}, shiftM at' up most k d t = some (d', t') → d'.all.length = d.all.length ∧ d'.out = d.out ∧ d'.nR = d.nR
  | 0, _, _, _, _, h => by cases h
  | k + 1, d, d', t, t', h => by
    simp only [shiftM] at h
    split at h
    · split at h
      · cases h
      · split at h
        · cases h; exact ⟨rfl, rfl, rfl⟩
        · split at h
          · cases h
          · rename_i hm
            have h1 := movedM_len hm
            have h2 := shiftM_len h
            rw [addNow_len] at h2
            exact ⟨h2.1.trans h1.1, h2.2.1.trans h1.2.1, h2.2.2.trans h1.2.2⟩
    · cases h; exact ⟨rfl, rfl, rfl⟩
theorem p74 (a : DI) (hd : a.d.ok) (hat : 0 ≤ a.at' ∧ a.at' < a.d.all.length) (hr : (spanV a.d a.at').isSome = true) : V74 a := by
  rw [vc74]; delta z74_0 z74_1 z74_2 z74_3 z74_4 z74_5 z74_6 z74_7 z74_8 z74_9 z74_10 z74_11 z74_12 z74_13 z74_14 z74_15 z74_16 z74_17 z74_18 z74_19 z74_20 z74_21 z74_22 z74_23 z74_24 z74_25 z74_26 z74_27 z74_28 z74_29 z74_30 z74_31 z74_32 z74_33 z74_34; simp only [condP, eq_self, implies_true, and_self, true_and, and_true, true_implies, forall_const, decide_eq_true_eq, decide_eq_false_iff_not, Int.toNat_natCast, dSpan_eSpan, dReach_eReach, dWay_eWay, dStep_eStep, dFar_eFar, dInt_eInt, Nat.zero_add, Int.zero_sub, Nat.le_eq, Nat.succ_eq_add_one, Nat.add_one_le_iff, Bool.not_eq_true', Bool.not_eq_false', rng_length, dSpan_mk, dReach_mk, dWay_mk, dStep_mk, dFar_mk, rng_getD]
  have hlen := hd.len
  unfold spanV at hr ⊢
  split at hr
  · rename_i l tl h hh e1 e2
    have r1 : (SA.mk a.d a.at' false 100000000).res = (l, tl) := by unfold SA.res; simp only; rw [e1]; rfl
    have r2 : (SA.mk a.d a.at' true 100000000).res = (h, hh) := by unfold SA.res; simp only; rw [e2]; rfl
    have l1 := (shiftM_len e1).1
    have l2 := (shiftM_len e2).1
    have r1' : (SA.mk ⟨a.d.all, a.d.out, a.d.nR⟩ a.at' false 100000000).res = (l, tl) := r1
    have r2' : (SA.mk ⟨a.d.all, a.d.out, a.d.nR⟩ a.at' true 100000000).res = (h, hh) := r2
    have e1' : shiftV ⟨a.d.all, a.d.out, a.d.nR⟩ a.at' false 100000000 = some (l, tl) := e1
    have e2' : shiftV ⟨a.d.all, a.d.out, a.d.nR⟩ a.at' true 100000000 = some (h, hh) := e2
    rw [r1', r2', e1, e2]
    simp only
    rw [l1, l2]
    exact ⟨⟨by omega, by omega⟩, ⟨rfl, hd, hat, rfl⟩, ⟨rfl, hd, hat, rfl⟩, ⟨hat, by omega, hat, by omega⟩, rfl, rfl⟩
  · cases hr
theorem ok74 : SpecOk Try.prog 74 (C74.spec dDI) := okC C74 (fun _ => A74) [] [] Try.func74 (fun _ => by kernel_rfl) (fun _ => gok_cons ok75 (gok_cons ok77 gok_nil)) (fun a h => p74 a h.1 h.2.1 h.2.2) (fun _ => noI rfl rfl) _
end Go.Bal
