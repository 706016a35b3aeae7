/- awake: the examples of the chapter. -/
import Derived.Test.YtonddbmhljelgaaBalW
import Derived.Test.YtonddbmhljelgaaBalH
import Derived.Test.YtonddbmhljelgaaRows
import Derived.WalkKit
import Derived.ProofKit
import Derived.OpenShut
import Derived.ShutString
import Derived.ChangeOld
import Derived.Below
import Derived.ChangeArms
set_option linter.unusedVariables false
set_option linter.unusedSimpArgs false
namespace Go.Bal
open Go Go.Sym Go.Proofs
def A14 := ann 108 [(49, C49.spec d49), (34, C34.spec d67), (20, C20.spec d67), (24, C24.spec d24), (21, C21.spec d67), (25, C25.spec d67), (35, C35.spec d35), (50, s50), (37, C37.spec d37), (27, C27.spec d27)]
def V14 (n : Nat) : Prop := fnVC Try.prog A14 Try.f14 (bodyOf Try.f14) [] (heapOf []) (.bool true) [] [] []
abbrev z14_0 : Prop := Int.ofNat (105 : Nat) = Int.ofNat (105 : Nat)
abbrev z14_1 : Prop := Int.ofNat (130 : Nat) = Int.ofNat (130 : Nat)
abbrev z14_2 : Prop := (3 : Nat) = (3 : Nat)
abbrev z14_3 : NetL := threeN (105 : Int) (130 : Int)
abbrev z14_4 : List Span := z14_3.g
abbrev z14_5 (i : Nat) : Span := gD z14_4 i
abbrev z14_6 : List Span := rng z14_4.length fun (i : Nat) => z14_5 i
abbrev z14_7 (i : Nat) : Span := gD z14_6 i
abbrev z14_8 : Prop := ∀ (i : Nat), i < (3 : Nat) → (z14_7 i).lo = (z14_5 i).lo ∧ (z14_7 i).hi = (z14_5 i).hi
abbrev z14_9 : Prop := (2 : Nat) = (2 : Nat)
abbrev z14_10 : List Reach := z14_3.r
abbrev z14_11 (i : Nat) : Reach := gD z14_10 i
abbrev z14_12 : List Reach := rng z14_10.length fun (i : Nat) => z14_11 i
abbrev z14_13 (i : Nat) : Reach := gD z14_12 i
abbrev z14_14 (i : Nat) : Span := (z14_13 i).sp
abbrev z14_15 (i : Nat) : Span := (z14_11 i).sp
abbrev z14_16 : Prop := ∀ (i : Nat), i < (2 : Nat) → (z14_13 i).fr = (z14_11 i).fr ∧ (z14_13 i).to = (z14_11 i).to ∧ (z14_14 i).lo = (z14_15 i).lo ∧ (z14_14 i).hi = (z14_15 i).hi
abbrev z14_17 : Prop := Int.ofNat (0 : Nat) = Int.ofNat (0 : Nat)
abbrev z14_18 : Prop := ¬(0 : Int) < setC (NetL.mk (rng (3 : Nat) fun (i : Nat) => z14_5 i) (rng (2 : Nat) fun (i : Nat) => z14_11 i))
abbrev z14_19 : NetL := NetL.mk z14_6 z14_12
abbrev z14_20 : Prop := Int.ofNat (140 : Nat) = Int.ofNat (140 : Nat)
abbrev z14_21 : Prop := Int.ofNat (150 : Nat) = Int.ofNat (150 : Nat)
abbrev z14_22 : NetL := threeN (140 : Int) (150 : Int)
abbrev z14_23 : List Span := z14_22.g
abbrev z14_24 (i : Nat) : Span := gD z14_23 i
abbrev z14_25 : List Span := rng z14_23.length fun (i : Nat) => z14_24 i
abbrev z14_26 (i : Nat) : Span := gD z14_25 i
abbrev z14_27 : Prop := ∀ (i : Nat), i < (3 : Nat) → (z14_26 i).lo = (z14_24 i).lo ∧ (z14_26 i).hi = (z14_24 i).hi
abbrev z14_28 : List Reach := z14_22.r
abbrev z14_29 (i : Nat) : Reach := gD z14_28 i
abbrev z14_30 : List Reach := rng z14_28.length fun (i : Nat) => z14_29 i
abbrev z14_31 (i : Nat) : Reach := gD z14_30 i
abbrev z14_32 (i : Nat) : Span := (z14_31 i).sp
abbrev z14_33 (i : Nat) : Span := (z14_29 i).sp
abbrev z14_34 : Prop := ∀ (i : Nat), i < (2 : Nat) → (z14_31 i).fr = (z14_29 i).fr ∧ (z14_31 i).to = (z14_29 i).to ∧ (z14_32 i).lo = (z14_33 i).lo ∧ (z14_32 i).hi = (z14_33 i).hi
abbrev z14_35 (i : Nat) : Bool := decide (i = (0 : Nat))
abbrev z14_36 (i : Nat) : Bool := decide (i - (1 : Nat) = (0 : Nat))
abbrev z14_37 : List Int := rng (3 : Nat) fun (i : Nat) => bif z14_35 i then (0 : Int) else bif z14_36 i then (-1 : Int) else (0 : Int)
abbrev z14_38 (j : Nat) : Nat := (0 : Nat) + j
abbrev z14_39 (j : Nat) : Bool := decide (z14_38 j = (0 : Nat))
abbrev z14_40 : NetL := NetL.mk z14_25 z14_30
abbrev z14_41 : List Span := spF z14_19
abbrev z14_42 (i : Nat) : Span := gD z14_41 i
abbrev z14_43 (i : Nat) : Span := gD (rng z14_41.length fun (i : Nat) => z14_42 i) i
abbrev z14_44 (i : Nat) : Int := bif z14_35 i then (100 : Int) else (105 : Int)
abbrev z14_45 (i : Nat) : Int := bif z14_35 i then (115 : Int) else (125 : Int)
abbrev z14_46 : List Span := rng (2 : Nat) fun (i : Nat) => Span.mk (z14_44 i) (z14_45 i)
abbrev z14_47 (i : Nat) : Span := gD z14_46 i
abbrev z14_48 : List Span := spG z14_19
abbrev z14_49 (i : Nat) : Span := gD z14_48 i
abbrev z14_50 (i : Nat) : Span := gD (rng z14_48.length fun (i : Nat) => z14_49 i) i
abbrev z14_51 (i : Nat) : Int := bif z14_35 i then (100 : Int) else bif z14_36 i then (0 : Int) else (-125 : Int)
abbrev z14_52 (i : Nat) : Int := bif z14_35 i then (115 : Int) else bif z14_36 i then (10 : Int) else (-105 : Int)
abbrev z14_53 : List Span := rng (3 : Nat) fun (i : Nat) => Span.mk (z14_51 i) (z14_52 i)
abbrev z14_54 (i : Nat) : Span := gD z14_53 i
abbrev z14_55 : Prop := (1 : Nat) = (1 : Nat)
abbrev z14_56 : List Int := suspK z14_40 z14_30.length
abbrev z14_57 (i : Nat) : Int := gD z14_56 i
abbrev z14_58 : List Int := rng (1 : Nat) fun (i : Nat) => (1 : Int)
theorem vc14 (n : Nat) : (V14 n) = ((z14_0 ∧ z14_1 ∧ z14_2 ∧ z14_8 ∧ z14_9 ∧ z14_16 ∧ z14_17 ∧ true = true ∧ z14_18 ∧ ∀ (i : Nat), i < (5 : Nat) → (spanV (setD z14_19) (↑i : Int)).isSome = true) ∧ (z14_20 ∧ z14_21 ∧
 z14_2 ∧ z14_27 ∧ z14_9 ∧ z14_34 ∧ z14_17 ∧ true = true) ∧ (z14_20 ∧ z14_21 ∧ z14_2 ∧ z14_27 ∧ z14_9 ∧ z14_34 ∧ Int.ofNat (15 : Nat) = Int.ofNat (15 : Nat) ∧ z14_2 ∧ (3 : Nat) ≤ (3 : Nat) ∧ (∀ (j : Nat), j < (3 : Nat) →
 gD z14_37 j = bif z14_39 j then (0 : Int) else bif decide (z14_38 j - (1 : Nat) = (0 : Nat)) then (-1 : Int) else (0 : Int)) ∧ z14_37.length.succ.le (4611686018427387904 : Nat)) ∧ (z14_20 ∧ z14_21 ∧ z14_2 ∧ z14_27 ∧
 z14_9 ∧ z14_34 ∧ z14_17 ∧ true = true ∧ true = true) ∧ (z14_20 ∧ z14_21 ∧ z14_2 ∧ z14_27 ∧ z14_9 ∧ z14_34 ∧ z14_17 ∧ true = true ∧ setC (NetL.mk (rng (3 : Nat) fun (i : Nat) => z14_24 i) (rng (2 : Nat) fun (i : Nat) =>
 z14_29 i)) ≠ (0 : Int) ∧ ∀ (i : Nat), i < (2 : Nat) → (settleV (suspD z14_40 i)).isSome = true) ∧ (z14_0 ∧ z14_1 ∧ z14_2 ∧ z14_8 ∧ z14_9 ∧ z14_16 ∧ z14_9 ∧ (2 : Nat) ≤ (2 : Nat) ∧ (∀ (j : Nat), j < (2 : Nat) → gD (rng (2
 : Nat) fun (i : Nat) => bif z14_35 i then (0 : Int) else (1 : Int)) j = bif z14_39 j then (0 : Int) else (1 : Int)) ∧ z14_17 ∧ true = true ∧ z14_18 ∧ false = false ∧ ((0 : Nat) < (2 : Nat) ∧ (2 : Nat) ≤ (1000000 : Nat))
 ∧ true = true) ∧ ((true = true → z14_9 ∧ (∀ (i : Nat), i < (2 : Nat) → (z14_43 i).lo = (z14_42 i).lo ∧ (z14_43 i).hi = (z14_42 i).hi) ∧ z14_9 ∧ (∀ (i : Nat), i < (2 : Nat) → (z14_47 i).lo = z14_44 i ∧ (z14_47 i).hi =
 z14_45 i) ∧ (2 : Nat) < (4611686018427387904 : Nat) ∧ z14_46.length.succ.le (4611686018427387904 : Nat)) ∧ (true = true → z14_2 ∧ (∀ (i : Nat), i < (3 : Nat) → (z14_50 i).lo = (z14_49 i).lo ∧ (z14_50 i).hi = (z14_49
 i).hi) ∧ z14_2 ∧ (∀ (i : Nat), i < (3 : Nat) → (z14_54 i).lo = z14_51 i ∧ (z14_54 i).hi = z14_52 i) ∧ (3 : Nat) < (4611686018427387904 : Nat) ∧ z14_53.length.succ.le (4611686018427387904 : Nat)) ∧ (true = true → z14_55 ∧
 (∀ (i : Nat), i < (1 : Nat) → gD (rng z14_56.length fun (i : Nat) => z14_57 i) i = z14_57 i) ∧ z14_55 ∧ (∀ (i : Nat), i < (1 : Nat) → gD z14_58 i = (1 : Int)) ∧ (1 : Nat) < (4611686018427387904 : Nat) ∧
 z14_58.length.succ.le (4611686018427387904 : Nat))) ∧ true = true) := by kernel_rfl
def f14 : List AVal → Option (AVal × List Prop)
  | [] => some (.bool true, [])
  | _ => none
def s14 : Sym.Spec := pureSpec f14
theorem p14 : V14 0 := by
  rw [vc14]; delta z14_0 z14_1 z14_2 z14_3 z14_4 z14_5 z14_6 z14_7 z14_8 z14_9 z14_10 z14_11 z14_12 z14_13 z14_14 z14_15 z14_16 z14_17 z14_18 z14_19 z14_20 z14_21 z14_22 z14_23 z14_24 z14_25 z14_26 z14_27 z14_28 z14_29 z14_30 z14_31 z14_32 z14_33 z14_34 z14_35 z14_36 z14_37 z14_38 z14_39 z14_40 z14_41 z14_42 z14_43 z14_44 z14_45 z14_46 z14_47 z14_48 z14_49 z14_50 z14_51 z14_52 z14_53 z14_54 z14_55 z14_56 z14_57 z14_58; simp only [condP, eq_self, implies_true, and_self, true_and, and_true, true_implies, forall_const, decide_eq_true_eq, decide_eq_false_iff_not, Int.toNat_natCast, dSpan_eSpan, dReach_eReach, dWay_eWay, dStep_eStep, dFar_eFar, dInt_eInt, Nat.zero_add, Int.zero_sub, Nat.le_eq, Nat.succ_eq_add_one, Nat.add_one_le_iff, Bool.not_eq_true', Bool.not_eq_false', rng_length, dSpan_mk, dReach_mk, dWay_mk, dStep_mk, dFar_mk, rng_getD]
  decide +kernel
theorem ok14 : SpecOk Try.prog 14 s14 := pureSpec_ok fun xs v p h _ => by
  unfold f14 at h; split at h
  · cases h; exact fnt (A := A14) (ren := []) (fz := []) Try.func14 (by kernel_rfl) (gok_cons ok49 (gok_cons ok34 (gok_cons ok20 (gok_cons ok24 (gok_cons ok21 (gok_cons ok25 (gok_cons ok35 (gok_cons ok50 (gok_cons ok37 (gok_cons ok27 gok_nil)))))))))) p14
  · cases h
end Go.Bal

set_option maxRecDepth 100000
namespace Go.Bal
open Go Go.Sym Go.Proofs Go.ChangeShapes Go.WideShapes Go.RowKit
def immOf (w : World) : Imm := fun b => match w.heap[b]? with
  | some (.cells c _ _) => some c
  | _ => none
theorem hrel_nil (w : World) (ι : Nat → Pl) : HRel (immOf w) ι (heapOf []) w := by
  refine ⟨fun i o h => by simp [heapOf, getO] at h, fun i j o o' h => by simp [heapOf, getO] at h, fun i o h => by simp [heapOf, getO] at h, fun b c h => ?_⟩
  unfold immOf at h
  split at h
  · rename_i c' e fr hc
    cases h
    exact ⟨e, fr, hc⟩
  · cases h
theorem cell_imm {w : World} {b off : Nat} {v : Value} (h : w.cell? ⟨b, off, none⟩ = some v) : ∃ c, immOf w b = some c ∧ c[off]? = some v := by
  unfold World.cell? at h
  simp only at h
  split at h
  · rename_i c e fr hc
    simp only [Option.isSome_none, Bool.false_eq_true, ↓reduceIte] at h
    exact ⟨c, by unfold immOf; rw [hc], h⟩
  · cases h
section
variable {X : Type} {enc : TypeId × Value → X} {P : Program} {w : World} {base : Nat} {spare : Nat → Bool} {held : Bool}
def ElemOk (X : Type) (enc : TypeId × Value → X) (P : Program) (w : World) (base : Nat) (spare : Nat → Bool) (held : Bool) (e : TypeId) (k : Nat) {α : Type} (en : α → DVal) : Prop :=
  P.cellsOf e = k ∧ ∀ (fuel : Nat) (cs : List Value) (x : DataW X × List MemPlace), DataW.trod enc P w base spare held fuel e cs = some x → cs.length = k → ∃ d : α, (en d).cells1 = cs.map DVal.v ∧ allOne (en d).cells1 = true
theorem row_rel {α : Type} [Inhabited α] {t e : TypeId} {k : Nat} {en : α → DVal} (hk : 0 < k) (ht : P.underlying t = some (.slice e)) (he : ElemOk X enc P w base spare held e k en) {fuel : Nat} {v : Value} {x : DataW X × List MemPlace}
    (h : DataW.trod enc P w base spare held fuel t [v] = some x) : ∃ l : List α, DRel (immOf w) (lst k l.length fun i => en (gD l i)) v := by
  rcases DataW.trod_slice ht h with ⟨h0, _⟩ | ⟨a, len, cap, elems, rest, n, _, hv, _, hb, hl, hm, hlen, hel, _⟩
  · cases h0
    exact ⟨[], .nil (fun h => by cases h) (.inl rfl)⟩
  · cases hv
    by_cases h0 : len = 0
    · subst h0
      exact ⟨[], .nil (fun h => by cases h) (.inr (by simp))⟩
    obtain ⟨hck, hE⟩ := he
    have each : ∀ i, ∃ (d : α) (cs : List Value), i < len → w.cells? base (a.add (i * k)) k = some cs ∧ (en d).cells1 = cs.map DVal.v ∧ allOne (en d).cells1 = true := by
      intro i
      by_cases hi : i < len
      · have h1 := hel i hi
        have h2 : elems[i]? = some (elems[i]'(by omega)) := List.getElem?_eq_getElem (by omega)
        rw [h2, Option.bind_eq_some_iff] at h1
        obtain ⟨cs, h3, h4⟩ := h1
        rw [hck] at h3
        obtain ⟨d, h5⟩ := hE n cs _ h4 (World.cells?_some h3).2.1
        exact ⟨d, cs, fun _ => ⟨h3, h5⟩⟩
      · exact ⟨default, [], fun h => absurd h hi⟩
    have cell : ∀ i j, i < len → j < k → ∃ y, (en (Classical.choose (each i))).cells1[j]? = some (.v y) ∧ w.cell? ((a.add (i * k)).add j) = some y := by
      intro i j hi hj
      obtain ⟨cs, hcs⟩ := Classical.choose_spec (each i)
      obtain ⟨h1, h2, _⟩ := hcs hi
      obtain ⟨_, h3, h4⟩ := World.cells?_some h1
      have h5 : cs[j]? = some (cs[j]'(by omega)) := List.getElem?_eq_getElem (by omega)
      refine ⟨cs[j]'(by omega), ?_, ?_⟩
      · rw [h2, List.getElem?_map, h5]; rfl
      · rw [h4 j hj, h5]
    have hspot : a.spot = none := by
      obtain ⟨y, _, h1⟩ := cell 0 0 (by omega) hk
      have := World.cell?_spot h1
      simpa [Addr.add] using this
    obtain ⟨b, off, spot⟩ := a
    simp only at hspot
    subst hspot
    have cell' : ∀ i j, i < len → j < k → ∃ y, (en (Classical.choose (each i))).cells1[j]? = some (.v y) ∧ w.cell? ⟨b, off + i * k + j, none⟩ = some y := by
      intro i j hi hj
      obtain ⟨y, h1, h2⟩ := cell i j hi hj
      refine ⟨y, h1, ?_⟩
      have : ((Addr.mk b off none).add (i * k)).add j = ⟨b, off + i * k + j, none⟩ := by
        unfold Addr.add
        split <;> split <;> simp_all
      rw [← this]; exact h2
    obtain ⟨y0, _, hc0⟩ := cell' 0 0 (by omega) hk
    obtain ⟨c, hB, _⟩ := cell_imm hc0
    have at' : ∀ i j, i < len → j < k → ∃ y, (en (Classical.choose (each i))).cells1[j]? = some (.v y) ∧ c[off + i * k + j]? = some y := by
      intro i j hi hj
      obtain ⟨y, h1, h2⟩ := cell' i j hi hj
      obtain ⟨c', h3, h4⟩ := cell_imm h2
      rw [hB] at h3; cases h3
      exact ⟨y, h1, h4⟩
    have hg : ∀ i, i < len → gD ((List.range len).map fun i => Classical.choose (each i)) i = Classical.choose (each i) := fun i hi => gD_range _ hi
    have hll : ((List.range len).map fun i => Classical.choose (each i)).length = len := by simp
    refine ⟨(List.range len).map fun i => Classical.choose (each i), ?_⟩
    rw [hll]
    have e1 : ∀ i, i < len → (en (Classical.choose (each i))).cells1.length = k := by
      intro i hi
      obtain ⟨cs, hcs⟩ := Classical.choose_spec (each i)
      obtain ⟨h1, h2, _⟩ := hcs hi
      rw [h2, List.length_map]; exact (World.cells?_some h1).2.1
    refine DRel.list (by omega) hB hl (fun h => by cases h) (fun i hi => ?_) ?_ (fun i j x y hi hx hy => ?_)
    · rw [hg i hi]
      obtain ⟨cs, hcs⟩ := Classical.choose_spec (each i)
      exact ⟨e1 i hi, (hcs hi).2.2⟩
    · obtain ⟨y, _, h1⟩ := at' (len - 1) (k - 1) (by omega) (by omega)
      have h2 := (Array.getElem?_eq_some_iff.1 h1).1
      have h3 : len * k = (len - 1) * k + k := by
        obtain ⟨m, rfl⟩ : ∃ m, len = m + 1 := ⟨len - 1, by omega⟩
        rw [Nat.add_sub_cancel, Nat.succ_mul]
      omega
    · rw [hg i hi] at hx
      have hj : j < k := by
        have := (List.getElem?_eq_some_iff.1 hx).1
        have := e1 i hi
        omega
      obtain ⟨z, h1, h2⟩ := at' i j hi hj
      rw [h1] at hx; rw [h2] at hy
      cases hx; cases hy
      exact .v _
end
section
variable {X : Type} {enc : TypeId × Value → X} {w : World} {base : Nat} {spare : Nat → Bool} {held : Bool}
end
theorem law_calls {g : FuncId} {xs : List AVal} (hg : FnT Try.prog g xs (heapOf []) (.bool true) []) {w : World} {vs : Array Value} (hl : vs.size = xs.length)
    (hx : ∀ (j : Nat) (a : AVal) (y : Value), xs[j]? = some a → vs[j]? = some y → ∃ d, a = .d d ∧ DRel (immOf w) d y) :
    Calls Try.prog g vs w fun e w' => e = .returned (.bool true) ∧ Below w.heap.size w w' := by
  refine (hg.2 (immOf w) (fun _ => ⟨0, 0⟩) w vs ⟨hl, fun j a y ha hy => ?_⟩ (hrel_nil w _)).mono fun e w' ⟨v, H', he, _, B', ι', hm, hv⟩ => ?_
  · obtain ⟨d, rfl, hd⟩ := hx j a y ha hy
    exact .d hd
  · subst he
    cases hv with
    | d hd =>
      cases hd
      exact ⟨rfl, hm.calm.os, hm.calm.tape, hm.calm.output, hm.size, fun k hk => hm.frame k hk fun i o h => by simp [heapOf, getO] at h⟩
end Go.Bal
