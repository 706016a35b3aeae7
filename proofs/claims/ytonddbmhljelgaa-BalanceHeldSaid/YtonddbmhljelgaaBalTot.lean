/- The functions of package balance: whole contracts. -/
import Derived.Test.YtonddbmhljelgaaBalT16
import Derived.Test.YtonddbmhljelgaaBalT18
import Derived.Test.YtonddbmhljelgaaBalT19
import Derived.Test.YtonddbmhljelgaaBalZ2
set_option linter.unusedVariables false
set_option linter.unusedSimpArgs false
namespace Go.Bal
open Go Go.Sym Go.Proofs
def dRow : AVal → Heap → Option (Nat × (Nat → DVal) × List Nat)
  | .d (.list _ n g _), _ => some (n, g, [])
  | .own id _ _ n, H => match H id with
    | .live (.row _ _ g) => some (n, g, [id])
    | _ => none
  | _, _ => none
def dNet : AVal → Heap → Option (NetL × List Nat)
  | .d x, _ => match decNet x with
    | some N => some (N, [])
    | none => none
  | .agg [a, b], H => match dRow a H, dRow b H with
    | some (n, g, f1), some (m, r, f2) => some (⟨rng n fun i => dSpan (g i), rng m fun i => dReach (r i)⟩, f1 ++ f2)
    | _, _ => none
  | _, _ => none
def dInts (a : AVal) (H : Heap) : Option (List Int × List Nat) := match dRow a H with
  | some (n, g, f) => some (rng n fun i => dInt (g i), f)
  | none => none
def dTru : AVal → Heap → Option (TruthL × List Nat)
  | .d (.agg [.list _ n f _, .list _ m g _]), _ => some (⟨rng n fun i => dInt (f i), rng m fun i => dInt (g i)⟩, [])
  | .agg [a, b], H => match dInts a H, dInts b H with
    | some (x, f1), some (y, f2) => some (⟨x, y⟩, f1 ++ f2)
    | _, _ => none
  | _, _ => none
def dN : List AVal → Heap → Option (NetL × List (Nat × Nat) × List Nat)
  | [x], H => match dNet x H with
    | some (N, f) => some (N, [], f)
    | none => none
  | _, _ => none
def dNT : List AVal → Heap → Option (NT × List (Nat × Nat) × List Nat)
  | [x, y], H => match dNet x H, dTru y H with
    | some (N, f), some (T, g) => some (⟨N, T⟩, [], f ++ g)
    | _, _ => none
  | _, _ => none
def corT (N : NetL) : TruthL := if checkL N = 0 then setT N else zT
def corC (N : NetL) : Int := if checkL N = 0 then setC N else 0
def xsN (N : NetL) : List AVal := [.d (eNetL N)]
def C20t : Ctr := { α := NetL, xs := xsN, val := fun N => .tup [.d (eTruthL (corT N)), .int (corC N), .int (checkL N)] }
theorem okT (C : Ctr) {g : FuncId} (h : ∀ a, allP (C.pre a) → FnT Try.prog g (C.xs a) (heapOf (C.L a)) (C.val a) (C.keep a)) (dec : List AVal → Heap → Option (C.α × List (Nat × Nat) × List Nat)) : SpecOk Try.prog g (C.spec dec) := Ctr.spec_ok h dec
theorem ok20t : SpecOk Try.prog 20 (C20t.spec dN) := okT C20t (fun (N : NetL) _ => by
  by_cases h : checkL N = 0
  · have := fnt (A := A20) (xs := C20.xs N) (L := []) (val := C20.val N) (keep := []) (ren := []) (fz := [5016, 5017]) Try.func20 (by kernel_rfl) (gok_cons ok55 (gok_cons ok56 gok_nil)) (p20 N h (settled_ok h).1)
    have e : C20t.val N = C20.val N := by show AVal.tup [.d (eTruthL (corT N)), .int (corC N), .int (checkL N)] = .tup [.d (eTruthL (truthM (setD N))), .int (setC N), .int 0]; unfold corT corC; rw [if_pos h, if_pos h, h]; rfl
    rw [e]; exact this
  · have := fnt (A := A20b) (xs := C20b.xs N) (L := []) (val := C20b.val N) (keep := []) (ren := []) (fz := []) Try.func20 (by kernel_rfl) (gok_cons ok55b gok_nil) (p20b N h)
    have e : C20t.val N = C20b.val N := by show AVal.tup [.d (eTruthL (corT N)), .int (corC N), .int (checkL N)] = .tup [.d (eTruthL zT), .int 0, .int (checkL N)]; unfold corT corC; rw [if_neg h, if_neg h]
    rw [e]; exact this) dN
def fitF (N : NetL) : List Span := if fitE N = 0 then spF N else []
def fitG (N : NetL) : List Span := if fitE N = 0 then spG N else []
theorem fitE_zero {N : NetL} : fitE N = 0 ↔ checkL N = 0 ∧ setC N = 0 := by
  unfold fitE
  by_cases h : checkL N = 0
  · rw [if_pos h]
    have := setC_nonneg h
    by_cases h2 : 0 < setC N
    · rw [if_pos h2]; constructor
      · intro h; cases h
      · intro h; omega
    · rw [if_neg h2]; constructor
      · intro _; exact ⟨h, by omega⟩
      · intro _; rfl
  · rw [if_neg h]; constructor
    · intro h2; exact absurd h2 h
    · intro h2; exact absurd h2.1 h
def C34t : Ctr := { α := NetL, xs := xsN, val := fun N => .tup [eSpL (fitF N), eSpL (fitG N), .int (fitE N)] }
theorem ok34t : SpecOk Try.prog 34 (C34t.spec dN) := okT C34t (fun (N : NetL) _ => by
  by_cases h : fitE N = 0
  · obtain ⟨h1, h2⟩ := fitE_zero.1 h
    have := fnt (A := A34 N) (xs := C34.xs N) (L := []) (val := C34.val N) (keep := []) (ren := []) (fz := [210, 211]) Try.func34 (by kernel_rfl) (gok_cons ok73 (gok_cons ok74 gok_nil)) (p34 N h1 (settled_ok h1).1 (by omega) (span_some h1 h2))
    have e : C34t.val N = C34.val N := by show AVal.tup [eSpL (fitF N), eSpL (fitG N), .int (fitE N)] = .tup [eSpL (spF N), eSpL (spG N), .int 0]; unfold fitF fitG; rw [if_pos h, if_pos h, h]
    rw [e]; exact this
  · have := fnt (A := A34b) (xs := C34b.xs N) (L := []) (val := C34b.val N) (keep := []) (ren := []) (fz := []) Try.func34 (by kernel_rfl) (gok_cons ok73b gok_nil) (p34b N h fun h => (settled_ok h).1)
    have e : C34t.val N = C34b.val N := by show AVal.tup [eSpL (fitF N), eSpL (fitG N), .int (fitE N)] = .tup [eSpL [], eSpL [], .int (fitE N)]; unfold fitF fitG; rw [if_neg h, if_neg h]
    rw [e]; exact this) dN
theorem grpEr_ne {n : Nat} : ∀ (l : List Int) {e : Int} (last : Int), e ≠ 0 → grpEr n e last l = e
  | [], _, _, _ => rfl
  | s :: l, e, last, h => by simp only [grpEr]; rw [if_neg h]; exact grpEr_ne l s h
theorem grpEr_zero {n : Nat} : ∀ (l : List Int) (last : Int), grpEr n 0 last l = if grpBad n last l then 2 else 0
  | [], _ => rfl
  | s :: l, last => by
    have e1 : grpEr n 0 last (s :: l) = grpEr n (if inM s (wr (last + 1)) (wr ((n : Int) - 1)) then 0 else 2) s l := rfl
    have e2 : grpBad n last (s :: l) = (!inM s (wr (last + 1)) (wr ((n : Int) - 1)) || grpBad n s l) := rfl
    rw [e1, e2]
    generalize inM s (wr (last + 1)) (wr ((n : Int) - 1)) = b
    cases b with
    | true => exact grpEr_zero l s
    | false => exact grpEr_ne l s (by decide)
theorem grpE_eq (a : NGr) : grpE a = if checkL a.N = 0 then if grpBad a.N.g.length (-1) a.st = true ∨ a.st.length = 0 then 2 else if 0 < setC a.N then 6 else 0 else checkL a.N := by
  unfold grpE grpE1 grpE0
  by_cases h : checkL a.N = 0
  · rw [h, grpEr_zero, if_pos rfl]
    cases hb : grpBad a.N.g.length (-1) a.st with
    | true => simp
    | false =>
      simp only [Bool.false_eq_true, if_false, if_true, false_or]
      by_cases hl : a.st.length = 0
      · simp [hl]
      · simp only [hl, if_false, if_true]
        unfold fitE; rw [if_pos h]
  · rw [grpEr_ne _ _ h, if_neg h, if_neg h, if_neg h]
theorem grpE_zero {a : NGr} : grpE a = 0 ↔ checkL a.N = 0 ∧ grpBad a.N.g.length (-1) a.st = false ∧ a.st.length ≠ 0 ∧ setC a.N = 0 := by
  rw [grpE_eq]
  by_cases h : checkL a.N = 0
  · rw [if_pos h]
    have hn := setC_nonneg h
    by_cases hb : grpBad a.N.g.length (-1) a.st = true ∨ a.st.length = 0
    · rw [if_pos hb]
      constructor
      · intro h; cases h
      · rintro ⟨_, h1, h2, _⟩
        rcases hb with hb | hb
        · rw [h1] at hb; cases hb
        · exact absurd hb h2
    · rw [if_neg hb]
      have hb1 : grpBad a.N.g.length (-1) a.st = false := by cases x : grpBad a.N.g.length (-1) a.st <;> simp_all
      have hb2 : a.st.length ≠ 0 := fun h => hb (.inr h)
      by_cases h2 : 0 < setC a.N
      · rw [if_pos h2]; constructor
        · intro h; cases h
        · rintro ⟨_, _, _, h3⟩; omega
      · rw [if_neg h2]; exact ⟨fun _ => ⟨h, hb1, hb2, by omega⟩, fun _ => rfl⟩
  · rw [if_neg h]; constructor
    · intro h2; exact absurd h2 h
    · intro h2; exact absurd h2.1 h
def grpT (a : NGr) : Span := if grpE a = 0 then grpS a else ⟨0, 0⟩
def C35t : Ctr := { α := NGr, xs := xs35, val := fun a => .tup [.d (eSpan (grpT a)), .int (grpE a)], pre := fun a => [a.st.length ≤ 1000000] }
def dGr : List AVal → Heap → Option (NGr × List (Nat × Nat) × List Nat)
  | [x, y], H => match dNet x H, dInts y H with
    | some (N, f), some (l, g) => some (⟨N, l⟩, [], f ++ g)
    | _, _ => none
  | _, _ => none
theorem ok35t : SpecOk Try.prog 35 (C35t.spec dGr) := okT C35t (fun (a : NGr) hl => by
  have hl : a.st.length ≤ 1000000 := hl
  by_cases h : grpE a = 0
  · obtain ⟨h1, h2, h3, h4⟩ := grpE_zero.1 h
    have := fnt (A := A35 a) (xs := C35.xs a) (L := []) (val := C35.val a) (keep := []) (ren := []) (fz := []) Try.func35 (by kernel_rfl) (gok_cons ok44 (gok_cons ok62 (gok_cons ok73 (gok_cons ok75 (gok_cons ok74 gok_nil))))) (p35 a h1 (settled_ok h1).1 (by omega) h2 ⟨by omega, hl⟩ (group_span h1 h4 h2).1)
    have e : C35t.val a = C35.val a := by show AVal.tup [.d (eSpan (grpT a)), .int (grpE a)] = .tup [.d (eSpan (grpS a)), .int 0]; unfold grpT; rw [if_pos h, h]
    rw [e]; exact this
  · have := fnt (A := A35b a) (xs := C35b.xs a) (L := []) (val := C35b.val a) (keep := []) (ren := []) (fz := []) Try.func35 (by kernel_rfl) (gok_cons ok44 (gok_cons ok62 (gok_cons ok73b gok_nil))) (p35b a h (fun h => (settled_ok h).1) (by omega))
    have e : C35t.val a = C35b.val a := by show AVal.tup [.d (eSpan (grpT a)), .int (grpE a)] = .tup [.d (eSpan ⟨0, 0⟩), .int (grpE a)]; unfold grpT; rw [if_neg h]
    rw [e]; exact this) dGr
end Go.Bal
