/- Package balance: which reaches alone can be wrong. -/
import Derived.Test.YtonddbmhljelgaaBalT15
import Derived.Test.YtonddbmhljelgaaBalS
import Derived.Test.YtonddbmhljelgaaBalO
import Derived.Test.YtonddbmhljelgaaBalU
import Derived.Test.YtonddbmhljelgaaBalT18
set_option linter.unusedVariables false
set_option linter.unusedSimpArgs false
namespace Go.Bal
open Go
variable {N : NetL} {T : TruthL}
end Go.Bal

namespace Go.Bal
open Go Go.Sym Go.Proofs
def grpEr (n : Nat) : Int → Int → List Int → Int
  | e, _, [] => e
  | e, last, s :: l => grpEr n (if e = 0 then if inM s (wr (last + 1)) (wr ((n : Int) - 1)) then 0 else 2 else e) s l
def grpE0 (a : NGr) : Int := grpEr a.N.g.length (checkL a.N) (-1) a.st
def grpE1 (a : NGr) : Int := if grpE0 a = 0 then if a.st.length = 0 then 2 else 0 else grpE0 a
def grpE (a : NGr) : Int := if grpE1 a = 0 then fitE a.N else grpE1 a
structure SLE where
  e : Int
  last : Int
  k : Nat
  deriving Inhabited
def A35b (a : NGr) : Ann := { ann 129 [(44, s44), (62, s62), (73, C73b.spec d67)] with loops := fun id => if id = 4 then some [{ α := SLE, dflt := default, T := fun s => ⟨[(1, .d (eIntsL a.st)), (2, .bptr 200 0), (4, .bptr 201 0), (6, .int s.e), (7, .int s.last), (19, .d (eIntsL a.st)), (20, .int a.st.length), (21, .int s.k)], [(200, begO a.N), (201, .live (.box [.int 0, .int 0]))]⟩, inv := fun s => s.k ≤ a.st.length ∧ grpEr a.N.g.length s.e s.last (a.st.drop s.k) = grpE0 a, meas := fun s => a.st.length - s.k, first := [(200, 1000), (201, 1016)] }] else none }
def C35b : Ctr := { α := NGr, xs := xs35, L := fun _ => [], val := fun a => .tup [.d (eSpan ⟨0, 0⟩), .int (grpE a)], keep := fun _ => [], pre := fun a => [grpE a ≠ 0, checkL a.N = 0 → (settledV a.N).isSome = true, a.st.length < 4611686018427387904] }
def V35b (a : NGr) : Prop := fnVC Try.prog (A35b a) Try.f35 (bodyOf Try.f35) (C35b.xs a) (heapOf (C35b.L a)) (C35b.val a) (C35b.keep a) [] []
abbrev z35b_0 (a : NGr) : Prop := a.st.length = a.st.length
abbrev z35b_1 (a : NGr) : Prop := ∀ (i : Nat), i < a.st.length → gD a.st i = gD a.st i
abbrev z35b_2 (a : NGr) : Prop := (↑a.st.length : Int) = (↑a.st.length : Int)
abbrev z35b_3 : Prop := Int.ofNat (0 : Nat) = Int.ofNat (0 : Nat)
abbrev z35b_4 (a : NGr) : Prop := a.N.g.length = a.N.g.length ∧ (∀ (i : Nat), i < a.N.g.length → (gD a.N.g i).lo = (gD a.N.g i).lo ∧ (gD a.N.g i).hi = (gD a.N.g i).hi) ∧ a.N.r.length = a.N.r.length ∧ (∀ (i : Nat), i <
 a.N.r.length → (gD a.N.r i).fr = (gD a.N.r i).fr ∧ (gD a.N.r i).to = (gD a.N.r i).to ∧ (gD a.N.r i).sp.lo = (gD a.N.r i).sp.lo ∧ (gD a.N.r i).sp.hi = (gD a.N.r i).sp.hi) ∧ z35b_3 ∧ z35b_3
abbrev z35b_5 (a : SLE) (a1 : NGr) : Prop := a.k ≤ a1.st.length ∧ grpEr a1.N.g.length a.e a.last (List.drop a.k a1.st) = grpE0 a1
abbrev z35b_6 (a : SLE) (a1 : NGr) : Prop := (↑a.k : Int) < (↑a1.st.length : Int)
abbrev z35b_7 (a : SLE) : Bool := a.e == (0 : Int)
abbrev z35b_8 (a : SLE) (a1 : NGr) (a2 : SLE) : Prop := a.last = gD a1.st a2.k ∧ z35b_0 a1 ∧ z35b_1 a1 ∧ z35b_2 a1 ∧ (↑a.k : Int) = IntKind.i64.wrap ((↑a2.k : Int) + (1 : Int)) ∧ z35b_4 a1
abbrev z35b_9 (a : NGr) (a1 : SLE) : Nat := a.st.length - a1.k
abbrev z35b_10 (a : SLE) (a1 : NGr) (a2 : SLE) : Prop := z35b_5 a a1 ∧ z35b_9 a1 a < z35b_9 a1 a2
abbrev z35b_11 (a : NGr) : List Span := rng a.N.g.length fun (i : Nat) => gD a.N.g i
abbrev z35b_12 (a : NGr) : Nat := (z35b_11 a).length
abbrev z35b_13 (a : NGr) (i : Nat) : Span := gD (z35b_11 a) i
abbrev z35b_14 (a : NGr) : List Reach := rng a.N.r.length fun (i : Nat) => gD a.N.r i
abbrev z35b_15 (a : NGr) : Nat := (z35b_14 a).length
abbrev z35b_16 (a : NGr) (i : Nat) : Reach := gD (z35b_14 a) i
abbrev z35b_17 (a : NGr) (i : Nat) : Span := (z35b_16 a i).sp
abbrev z35b_18 (a : NGr) : NetL := NetL.mk (z35b_11 a) (z35b_14 a)
abbrev z35b_19 (a : NGr) : Int := fitE (z35b_18 a)
theorem vc35b (a : NGr) : (V35b a) = (((∀ (i : Nat), i < a.N.g.length → True) ∧ ∀ (i : Nat), i < a.N.r.length → True) ∧ (∃ (a_1 : SLE), (z35b_0 a ∧ z35b_1 a ∧ a_1.e = checkM (Net.mk a.N.g.length (fun (i : Nat) => gD
 a.N.g i) a.N.r.length fun (i : Nat) => gD a.N.r i) ∧ a_1.last = (-1 : Int) ∧ z35b_0 a ∧ z35b_1 a ∧ z35b_2 a ∧ (↑a_1.k : Int) = (0 : Int) ∧ z35b_4 a) ∧ z35b_5 a_1 a) ∧ ∀ (a_1 : SLE), z35b_5 a_1 a → bif decide (z35b_6 a_1
 a) then ((0 : Int) ≤ (↑a_1.k : Int) ∧ z35b_6 a_1 a) ∧ bif bif z35b_7 a_1 then !inM (gD a.st a_1.k) (IntKind.i64.wrap (a_1.last + (1 : Int))) (IntKind.i64.wrap ((↑a.N.g.length : Int) - (1 : Int))) else false then ∃ (a_3 :
 SLE), (z35b_0 a ∧ z35b_1 a ∧ a_3.e = (2 : Int) ∧ z35b_8 a_3 a a_1) ∧ z35b_10 a_3 a a_1 else ∃ (a_3 : SLE), (z35b_0 a ∧ z35b_1 a ∧ a_3.e = a_1.e ∧ z35b_8 a_3 a a_1) ∧ z35b_10 a_3 a a_1 else bif bif z35b_7 a_1 then
 (↑a.st.length : Int) == (0 : Int) else false then z35b_3 ∧ z35b_3 ∧ grpE a = (2 : Int) else bif a_1.e != (0 : Int) then z35b_3 ∧ z35b_3 ∧ grpE a = a_1.e else (z35b_12 a = a.N.g.length ∧ (∀ (i : Nat), i < z35b_12 a →
 (z35b_13 a i).lo = (gD a.N.g i).lo ∧ (z35b_13 a i).hi = (gD a.N.g i).hi) ∧ z35b_15 a = a.N.r.length ∧ (∀ (i : Nat), i < z35b_15 a → (z35b_16 a i).fr = (gD a.N.r i).fr ∧ (z35b_16 a i).to = (gD a.N.r i).to ∧ (z35b_17 a
 i).lo = (gD a.N.r i).sp.lo ∧ (z35b_17 a i).hi = (gD a.N.r i).sp.hi) ∧ z35b_19 a ≠ (0 : Int) ∧ (checkL (z35b_18 a) = (0 : Int) → (settledV (z35b_18 a)).isSome = true)) ∧ bif z35b_19 a != (0 : Int) then z35b_3 ∧ z35b_3 ∧
 grpE a = z35b_19 a else False) := by kernel_rfl
theorem p35b (a : NGr) (h1 : grpE a ≠ 0) (h2 : checkL a.N = 0 → (settledV a.N).isSome = true) (h3 : a.st.length < 4611686018427387904) : V35b a := by
  rw [vc35b]; delta z35b_0 z35b_1 z35b_2 z35b_3 z35b_4 z35b_5 z35b_6 z35b_7 z35b_8 z35b_9 z35b_10 z35b_11 z35b_12 z35b_13 z35b_14 z35b_15 z35b_16 z35b_17 z35b_18 z35b_19; simp only [condP, eq_self, implies_true, and_self, true_and, and_true, true_implies, forall_const, decide_eq_true_eq, decide_eq_false_iff_not, Int.toNat_natCast, dSpan_eSpan, dReach_eReach, dWay_eWay, dStep_eStep, dFar_eFar, dInt_eInt, Nat.zero_add, Int.zero_sub, Nat.le_eq, Nat.succ_eq_add_one, Nat.add_one_le_iff, Bool.not_eq_true', Bool.not_eq_false', rng_length, dSpan_mk, dReach_mk, dWay_mk, dStep_mk, dFar_mk, rng_getD, DL.d6, DL.d7, DL.d8, net_check]
  refine ⟨⟨⟨checkL a.N, -1, 0⟩, ⟨rfl, rfl, rfl⟩, Nat.zero_le _, rfl⟩, fun s ⟨q1, q2⟩ => ⟨fun hlt => ⟨⟨by omega, hlt⟩, fun hc => ?_, fun hc => ?_⟩, fun hge => ?_⟩⟩
  · have hk : s.k < a.st.length := by omega
    rw [drop_gD hk] at q2
    have he : s.e = 0 := Classical.byContradiction fun hne => by
      have : (s.e == 0) = false := by simpa using hne
      rw [this] at hc; cases hc
    rw [he] at hc
    have hb : inM (gD a.st s.k) (wr (s.last + 1)) (wr ((a.N.g.length : Int) - 1)) = false := by simpa using hc
    simp only [grpEr, if_pos he, hb] at q2
    exact ⟨⟨2, gD a.st s.k, s.k + 1⟩, ⟨rfl, rfl, (wsucc (by omega)).symm⟩, ⟨by show s.k + 1 ≤ _; omega, q2⟩, by show _ - (s.k + 1) < _; omega⟩
  · have hk : s.k < a.st.length := by omega
    rw [drop_gD hk] at q2
    refine ⟨⟨s.e, gD a.st s.k, s.k + 1⟩, ⟨rfl, rfl, (wsucc (by omega)).symm⟩, ⟨by show s.k + 1 ≤ _; omega, ?_⟩, by show _ - (s.k + 1) < _; omega⟩
    simp only [grpEr] at q2
    rw [← q2]
    by_cases he : s.e = 0
    · rw [he] at hc
      have hb : inM (gD a.st s.k) (wr (s.last + 1)) (wr ((a.N.g.length : Int) - 1)) = true := by simpa using hc
      rw [if_pos he, hb, he]; rfl
    · rw [if_neg he]
  · have hk : s.k = a.st.length := by omega
    rw [hk, List.drop_eq_nil_of_le (Nat.le_refl _)] at q2
    have q2 : s.e = grpE0 a := q2
    rw [q2]
    by_cases h0 : grpE0 a = 0
    · rw [h0]
      by_cases hl : a.st.length = 0
      · have e1 : grpE1 a = 2 := by unfold grpE1; rw [if_pos h0, if_pos hl]
        have e2 : grpE a = 2 := by unfold grpE; rw [e1]; rfl
        simp [hl, e2]
      · have e1 : grpE1 a = 0 := by unfold grpE1; rw [if_pos h0, if_neg hl]
        have e2 : grpE a = fitE a.N := by unfold grpE; rw [if_pos e1]
        have hl2 : ¬ (a.st.length : Int) = 0 := by omega
        rw [e2] at h1
        simp [hl, e2, h1]
        exact h2
    · have e1 : grpE1 a = grpE0 a := by unfold grpE1; rw [if_neg h0]
      have e2 : grpE a = grpE0 a := by unfold grpE; rw [e1, if_neg h0]
      simp [h0, e2]
end Go.Bal



namespace Go.Bal
open Go Go.Sym Go.Proofs
def dRow : AVal → Heap → Option (Nat × (Nat → DVal) × List Nat)
  | .d (.list _ n g _), _ => some (n, g, [])
  | .own id _ _ n, H => match H id with
    | .live (.row _ _ g) => some (n, g, [id])
    | _ => none
  | _, _ => none
def dNet : AVal → Heap → Option (NetL × List Nat)
  | .d x, _ => match decNet x with
    | some N => some (N, [])
    | none => none
  | .agg [a, b], H => match dRow a H, dRow b H with
    | some (n, g, f1), some (m, r, f2) => some (⟨rng n fun i => dSpan (g i), rng m fun i => dReach (r i)⟩, f1 ++ f2)
    | _, _ => none
  | _, _ => none
def dInts (a : AVal) (H : Heap) : Option (List Int × List Nat) := match dRow a H with
  | some (n, g, f) => some (rng n fun i => dInt (g i), f)
  | none => none
def corC (N : NetL) : Int := if checkL N = 0 then setC N else 0
theorem okT (C : Ctr) {g : FuncId} (h : ∀ a, allP (C.pre a) → FnT Try.prog g (C.xs a) (heapOf (C.L a)) (C.val a) (C.keep a)) (dec : List AVal → Heap → Option (C.α × List (Nat × Nat) × List Nat)) : SpecOk Try.prog g (C.spec dec) := Ctr.spec_ok h dec
def fitF (N : NetL) : List Span := if fitE N = 0 then spF N else []
def fitG (N : NetL) : List Span := if fitE N = 0 then spG N else []
theorem fitE_zero {N : NetL} : fitE N = 0 ↔ checkL N = 0 ∧ setC N = 0 := by
  unfold fitE
  by_cases h : checkL N = 0
  · rw [if_pos h]
    have := setC_nonneg h
    by_cases h2 : 0 < setC N
    · rw [if_pos h2]; constructor
      · intro h; cases h
      · intro h; omega
    · rw [if_neg h2]; constructor
      · intro _; exact ⟨h, by omega⟩
      · intro _; rfl
  · rw [if_neg h]; constructor
    · intro h2; exact absurd h2 h
    · intro h2; exact absurd h2.1 h
theorem grpEr_ne {n : Nat} : ∀ (l : List Int) {e : Int} (last : Int), e ≠ 0 → grpEr n e last l = e
  | [], _, _, _ => rfl
  | s :: l, e, last, h => by simp only [grpEr]; rw [if_neg h]; exact grpEr_ne l s h
theorem grpEr_zero {n : Nat} : ∀ (l : List Int) (last : Int), grpEr n 0 last l = if grpBad n last l then 2 else 0
  | [], _ => rfl
  | s :: l, last => by
    have e1 : grpEr n 0 last (s :: l) = grpEr n (if inM s (wr (last + 1)) (wr ((n : Int) - 1)) then 0 else 2) s l := rfl
    have e2 : grpBad n last (s :: l) = (!inM s (wr (last + 1)) (wr ((n : Int) - 1)) || grpBad n s l) := rfl
    rw [e1, e2]
    generalize inM s (wr (last + 1)) (wr ((n : Int) - 1)) = b
    cases b with
    | true => exact grpEr_zero l s
    | false => exact grpEr_ne l s (by decide)
theorem grpE_eq (a : NGr) : grpE a = if checkL a.N = 0 then if grpBad a.N.g.length (-1) a.st = true ∨ a.st.length = 0 then 2 else if 0 < setC a.N then 6 else 0 else checkL a.N := by
  unfold grpE grpE1 grpE0
  by_cases h : checkL a.N = 0
  · rw [h, grpEr_zero, if_pos rfl]
    cases hb : grpBad a.N.g.length (-1) a.st with
    | true => simp
    | false =>
      simp only [Bool.false_eq_true, if_false, if_true, false_or]
      by_cases hl : a.st.length = 0
      · simp [hl]
      · simp only [hl, if_false, if_true]
        unfold fitE; rw [if_pos h]
  · rw [grpEr_ne _ _ h, if_neg h, if_neg h, if_neg h]
theorem grpE_zero {a : NGr} : grpE a = 0 ↔ checkL a.N = 0 ∧ grpBad a.N.g.length (-1) a.st = false ∧ a.st.length ≠ 0 ∧ setC a.N = 0 := by
  rw [grpE_eq]
  by_cases h : checkL a.N = 0
  · rw [if_pos h]
    have hn := setC_nonneg h
    by_cases hb : grpBad a.N.g.length (-1) a.st = true ∨ a.st.length = 0
    · rw [if_pos hb]
      constructor
      · intro h; cases h
      · rintro ⟨_, h1, h2, _⟩
        rcases hb with hb | hb
        · rw [h1] at hb; cases hb
        · exact absurd hb h2
    · rw [if_neg hb]
      have hb1 : grpBad a.N.g.length (-1) a.st = false := by cases x : grpBad a.N.g.length (-1) a.st <;> simp_all
      have hb2 : a.st.length ≠ 0 := fun h => hb (.inr h)
      by_cases h2 : 0 < setC a.N
      · rw [if_pos h2]; constructor
        · intro h; cases h
        · rintro ⟨_, _, _, h3⟩; omega
      · rw [if_neg h2]; exact ⟨fun _ => ⟨h, hb1, hb2, by omega⟩, fun _ => rfl⟩
  · rw [if_neg h]; constructor
    · intro h2; exact absurd h2 h
    · intro h2; exact absurd h2.1 h
def grpT (a : NGr) : Span := if grpE a = 0 then grpS a else ⟨0, 0⟩
def C35t : Ctr := { α := NGr, xs := xs35, val := fun a => .tup [.d (eSpan (grpT a)), .int (grpE a)], pre := fun a => [a.st.length ≤ 1000000] }
def dGr : List AVal → Heap → Option (NGr × List (Nat × Nat) × List Nat)
  | [x, y], H => match dNet x H, dInts y H with
    | some (N, f), some (l, g) => some (⟨N, l⟩, [], f ++ g)
    | _, _ => none
  | _, _ => none
theorem ok35t : SpecOk Try.prog 35 (C35t.spec dGr) := okT C35t (fun (a : NGr) hl => by
  have hl : a.st.length ≤ 1000000 := hl
  by_cases h : grpE a = 0
  · obtain ⟨h1, h2, h3, h4⟩ := grpE_zero.1 h
    have := fnt (A := A35 a) (xs := C35.xs a) (L := []) (val := C35.val a) (keep := []) (ren := []) (fz := []) Try.func35 (by kernel_rfl) (gok_cons ok44 (gok_cons ok62 (gok_cons ok73 (gok_cons ok75 (gok_cons ok74 gok_nil))))) (p35 a h1 (settled_ok h1).1 (by omega) h2 ⟨by omega, hl⟩ (group_span h1 h4 h2).1)
    have e : C35t.val a = C35.val a := by show AVal.tup [.d (eSpan (grpT a)), .int (grpE a)] = .tup [.d (eSpan (grpS a)), .int 0]; unfold grpT; rw [if_pos h, h]
    rw [e]; exact this
  · have := fnt (A := A35b a) (xs := C35b.xs a) (L := []) (val := C35b.val a) (keep := []) (ren := []) (fz := []) Try.func35 (by kernel_rfl) (gok_cons ok44 (gok_cons ok62 (gok_cons ok73b gok_nil))) (p35b a h (fun h => (settled_ok h).1) (by omega))
    have e : C35t.val a = C35b.val a := by show AVal.tup [.d (eSpan (grpT a)), .int (grpE a)] = .tup [.d (eSpan ⟨0, 0⟩), .int (grpE a)]; unfold grpT; rw [if_neg h]
    rw [e]; exact this) dGr
end Go.Bal
