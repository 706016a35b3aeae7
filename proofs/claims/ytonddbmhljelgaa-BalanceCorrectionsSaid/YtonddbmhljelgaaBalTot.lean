/- The functions of package balance: whole contracts. -/
import Derived.Test.YtonddbmhljelgaaBalT15
import Derived.Test.YtonddbmhljelgaaBalT19
import Derived.Test.YtonddbmhljelgaaBalZ2
import Derived.Test.YtonddbmhljelgaaBalW
set_option linter.unusedVariables false
set_option linter.unusedSimpArgs false
namespace Go.Bal
open Go Go.Sym Go.Proofs
def dRow : AVal → Heap → Option (Nat × (Nat → DVal) × List Nat)
  | .d (.list _ n g _), _ => some (n, g, [])
  | .own id _ _ n, H => match H id with
    | .live (.row _ _ g) => some (n, g, [id])
    | _ => none
  | _, _ => none
def dNet : AVal → Heap → Option (NetL × List Nat)
  | .d x, _ => match decNet x with
    | some N => some (N, [])
    | none => none
  | .agg [a, b], H => match dRow a H, dRow b H with
    | some (n, g, f1), some (m, r, f2) => some (⟨rng n fun i => dSpan (g i), rng m fun i => dReach (r i)⟩, f1 ++ f2)
    | _, _ => none
  | _, _ => none
def dInts (a : AVal) (H : Heap) : Option (List Int × List Nat) := match dRow a H with
  | some (n, g, f) => some (rng n fun i => dInt (g i), f)
  | none => none
def dN : List AVal → Heap → Option (NetL × List (Nat × Nat) × List Nat)
  | [x], H => match dNet x H with
    | some (N, f) => some (N, [], f)
    | none => none
  | _, _ => none
def agrM (N : NetL) : Bool := decide (checkL N = 0) && decide (setC N = 0)
def corT (N : NetL) : TruthL := if checkL N = 0 then setT N else zT
def corC (N : NetL) : Int := if checkL N = 0 then setC N else 0
def levT (N : NetL) : List Int := if checkL N = 0 then levM N else []
def xsN (N : NetL) : List AVal := [.d (eNetL N)]
def C19t : Ctr := { α := NetL, xs := xsN, val := fun N => .tup [.bool (agrM N), .int (checkL N)] }
def C20t : Ctr := { α := NetL, xs := xsN, val := fun N => .tup [.d (eTruthL (corT N)), .int (corC N), .int (checkL N)] }
def C21t : Ctr := { α := NetL, xs := xsN, val := fun N => .tup [.d (eIntsL (levT N)), .int (checkL N)] }
theorem okT (C : Ctr) {g : FuncId} (h : ∀ a, allP (C.pre a) → FnT Try.prog g (C.xs a) (heapOf (C.L a)) (C.val a) (C.keep a)) (dec : List AVal → Heap → Option (C.α × List (Nat × Nat) × List Nat)) : SpecOk Try.prog g (C.spec dec) := Ctr.spec_ok h dec
theorem ok19t : SpecOk Try.prog 19 (C19t.spec dN) := okT C19t (fun (N : NetL) _ => by
  by_cases h : checkL N = 0
  · have := fnt (A := A19) (xs := C19.xs N) (L := []) (val := C19.val N) (keep := []) (ren := []) (fz := []) Try.func19 (by kernel_rfl) (gok_cons ok55 gok_nil) (p19 N h (settled_ok h).1)
    have e : C19t.val N = C19.val N := by show AVal.tup [.bool (agrM N), .int (checkL N)] = .tup [.bool (decide (setC N = 0)), .int 0]; unfold agrM; rw [h]; rfl
    rw [e]; exact this
  · have := fnt (A := A19b) (xs := C19b.xs N) (L := []) (val := C19b.val N) (keep := []) (ren := []) (fz := []) Try.func19 (by kernel_rfl) (gok_cons ok55b gok_nil) (p19b N h)
    have e : C19t.val N = C19b.val N := by show AVal.tup [.bool (agrM N), .int (checkL N)] = .tup [.bool false, .int (checkL N)]; unfold agrM; rw [decide_eq_false h]; rfl
    rw [e]; exact this) dN
theorem ok20t : SpecOk Try.prog 20 (C20t.spec dN) := okT C20t (fun (N : NetL) _ => by
  by_cases h : checkL N = 0
  · have := fnt (A := A20) (xs := C20.xs N) (L := []) (val := C20.val N) (keep := []) (ren := []) (fz := [5016, 5017]) Try.func20 (by kernel_rfl) (gok_cons ok55 (gok_cons ok56 gok_nil)) (p20 N h (settled_ok h).1)
    have e : C20t.val N = C20.val N := by show AVal.tup [.d (eTruthL (corT N)), .int (corC N), .int (checkL N)] = .tup [.d (eTruthL (truthM (setD N))), .int (setC N), .int 0]; unfold corT corC; rw [if_pos h, if_pos h, h]; rfl
    rw [e]; exact this
  · have := fnt (A := A20b) (xs := C20b.xs N) (L := []) (val := C20b.val N) (keep := []) (ren := []) (fz := []) Try.func20 (by kernel_rfl) (gok_cons ok55b gok_nil) (p20b N h)
    have e : C20t.val N = C20b.val N := by show AVal.tup [.d (eTruthL (corT N)), .int (corC N), .int (checkL N)] = .tup [.d (eTruthL zT), .int 0, .int (checkL N)]; unfold corT corC; rw [if_neg h, if_neg h]
    rw [e]; exact this) dN
theorem ok21t : SpecOk Try.prog 21 (C21t.spec dN) := okT C21t (fun (N : NetL) _ => by
  by_cases h : checkL N = 0
  · have := fnt (A := A21 N) (xs := C21.xs N) (L := []) (val := C21.val N) (keep := []) (ren := []) (fz := [202]) Try.func21 (by kernel_rfl) (gok_cons ok55 (gok_cons ok57l gok_nil)) (p21 N h (settled_ok h).1 (reach_out_ok h))
    have e : C21t.val N = C21.val N := by show AVal.tup [.d (eIntsL (levT N)), .int (checkL N)] = .tup [.d (eIntsL (levM N)), .int 0]; unfold levT; rw [if_pos h, h]
    rw [e]; exact this
  · have := fnt (A := A21b) (xs := C21b.xs N) (L := []) (val := C21b.val N) (keep := []) (ren := []) (fz := []) Try.func21 (by kernel_rfl) (gok_cons ok55b gok_nil) (p21b N h)
    have e : C21t.val N = C21b.val N := by show AVal.tup [.d (eIntsL (levT N)), .int (checkL N)] = .tup [.d (eIntsL []), .int (checkL N)]; unfold levT; rw [if_neg h]
    rw [e]; exact this) dN
def susT (N : NetL) : List Int := if suspE N = 0 then suspK N N.r.length else []
def C25t : Ctr := { α := NetL, xs := xsN, val := fun N => .tup [.d (eIntsL (susT N)), .int (suspE N)] }
theorem suspE_zero {N : NetL} : suspE N = 0 ↔ checkL N = 0 ∧ setC N ≠ 0 := by
  unfold suspE
  by_cases h : checkL N = 0
  · rw [if_pos h]
    by_cases h2 : setC N = 0
    · rw [if_pos h2]; constructor
      · intro h; cases h
      · intro h; exact absurd h2 h.2
    · rw [if_neg h2]; exact ⟨fun _ => ⟨h, h2⟩, fun _ => rfl⟩
  · rw [if_neg h]; constructor
    · intro h2; exact absurd h2 h
    · intro h2; exact absurd h2.1 h
theorem ok25t : SpecOk Try.prog 25 (C25t.spec dN) := okT C25t (fun (N : NetL) _ => by
  by_cases h : suspE N = 0
  · obtain ⟨h1, h2⟩ := suspE_zero.1 h
    have := fnt (A := A25 N) (xs := C25.xs N) (L := []) (val := C25.val N) (keep := []) (ren := []) (fz := [202]) Try.func25 (by kernel_rfl) (gok_cons ok19 (gok_cons ok67 (gok_cons ok68 (gok_cons ok56 (gok_cons ok69 (gok_cons ok70 gok_nil)))))) (p25 N h1 (settled_ok h1).1 h2 fun i hi => (susp_fit h1 hi).1)
    have e : C25t.val N = C25.val N := by show AVal.tup [.d (eIntsL (susT N)), .int (suspE N)] = .tup [.d (eIntsL (suspK N N.r.length)), .int 0]; unfold susT; rw [if_pos h, h]
    rw [e]; exact this
  · have e : C25t.val N = C25b.val N := by show AVal.tup [.d (eIntsL (susT N)), .int (suspE N)] = .tup [.d (eIntsL []), .int (suspE N)]; unfold susT; rw [if_neg h]
    rw [e]
    by_cases h1 : checkL N = 0
    · have h3 : setC N = 0 := Classical.byContradiction fun hne => h (suspE_zero.2 ⟨h1, hne⟩)
      exact fnt (A := A25e) (xs := C25b.xs N) (L := []) (val := C25b.val N) (keep := []) (ren := []) (fz := []) Try.func25 (by kernel_rfl) (gok_cons ok19 gok_nil) (p25e N h1 (settled_ok h1).1 h3)
    · exact fnt (A := A25b) (xs := C25b.xs N) (L := []) (val := C25b.val N) (keep := []) (ren := []) (fz := []) Try.func25 (by kernel_rfl) (gok_cons ok19b gok_nil) (p25b N h1)) dN
end Go.Bal

namespace Go.Bal.DL
open Go.Sym Go
theorem m1 (n : Int) : dInt (.v (.int .u8 n)) = n := rfl
end Go.Bal.DL
namespace Go.Bal
open Go Go.Sym Go.Proofs
structure Stm where
  bs : List Int
  used : Int
  mix : Int
  deriving Inhabited
end Go.Bal
namespace Go.Bal.DL
theorem m2 (s : Stm) : Stm.mk s.bs s.used s.mix = s := rfl
end Go.Bal.DL
namespace Go.Bal
open Go Go.Sym Go.Proofs
def nextB (s : Stm) : Int := if s.bs.length ≤ s.used then wr (wr (gD s.bs (s.used.tmod s.bs.length).toNat) + wr (wr (11 * s.mix) + wr (s.used.tdiv s.bs.length))) else wr (gD s.bs (s.used.tmod s.bs.length).toNat)
def nextM (s : Stm) : Int := (wr (wr (wr (5 * s.mix) + nextB s) + 1)).tmod 251
def idle (s : Stm) (n : Int) : Bool := if n < 2 then true else decide (s.bs.length = 0)
def nextS (s : Stm) (n : Int) : Stm := if idle s n then s else ⟨s.bs, wr (s.used + 1), nextM s⟩
def nextV (s : Stm) (n : Int) : Int := if idle s n then 0 else (if 256 < n then wr (wr (256 * nextB s) + nextM s) else nextB s).tmod n
def witN (lo hi : Int) : Int := wr (wr (hi - lo) + 1)
def witV (s : Stm) (lo hi : Int) : Int := wr (lo + nextV s (witN lo hi))
def witS (s : Stm) (lo hi : Int) : Stm := nextS s (witN lo hi)
structure StmB (K : Int) (s : Stm) : Prop where
  used : 0 ≤ s.used ∧ s.used ≤ K
  mix : 0 ≤ s.mix ∧ s.mix < 251
  bs : ∀ i, i < s.bs.length → 0 ≤ gD s.bs i ∧ gD s.bs i ≤ 255
theorem tmod_lt {a b : Int} (ha : 0 ≤ a) (hb : 0 < b) : 0 ≤ a.tmod b ∧ a.tmod b < b := by
  rw [Int.tmod_eq_emod_of_nonneg ha]
  exact ⟨Int.emod_nonneg _ (by omega), Int.emod_lt_of_pos _ hb⟩
theorem nextB_in {K : Int} {s : Stm} (h : StmB K s) (hK : K ≤ 1000000000000000) (hb : s.bs.length ≠ 0) : 0 ≤ nextB s ∧ nextB s ≤ 1000000000010000 := by
  have hu := h.used
  have hm := h.mix
  have hi := tmod_lt hu.1 (show 0 < (s.bs.length : Int) by omega)
  have hx := h.bs (s.used.tmod s.bs.length).toNat (by omega)
  have hq : 0 ≤ s.used.tdiv s.bs.length ∧ s.used.tdiv s.bs.length ≤ 1000000000000000 := by
    rw [Int.tdiv_eq_ediv_of_nonneg hu.1]
    refine ⟨Int.ediv_nonneg hu.1 (by omega), ?_⟩
    have := Int.ediv_le_self (s.bs.length : Int) hu.1
    omega
  have e0 : wr (gD s.bs (s.used.tmod s.bs.length).toNat) = gD s.bs (s.used.tmod s.bs.length).toNat := w64 (by omega) (by omega)
  have e1 : wr (11 * s.mix) = 11 * s.mix := w64 (by omega) (by omega)
  have e2 : wr (s.used.tdiv s.bs.length) = s.used.tdiv s.bs.length := w64 (by omega) (by omega)
  have e3 : wr (11 * s.mix + s.used.tdiv s.bs.length) = 11 * s.mix + s.used.tdiv s.bs.length := w64 (by omega) (by omega)
  have e4 : wr (gD s.bs (s.used.tmod s.bs.length).toNat + (11 * s.mix + s.used.tdiv s.bs.length)) = gD s.bs (s.used.tmod s.bs.length).toNat + (11 * s.mix + s.used.tdiv s.bs.length) := w64 (by omega) (by omega)
  unfold nextB
  rw [e0, e1, e2, e3, e4]
  split <;> omega
theorem nextM_in {K : Int} {s : Stm} (h : StmB K s) (hK : K ≤ 1000000000000000) (hb : s.bs.length ≠ 0) : 0 ≤ nextM s ∧ nextM s < 251 := by
  have hm := h.mix
  have hn := nextB_in h hK hb
  have e1 : wr (5 * s.mix) = 5 * s.mix := w64 (by omega) (by omega)
  have e2 : wr (5 * s.mix + nextB s) = 5 * s.mix + nextB s := w64 (by omega) (by omega)
  have e3 : wr (5 * s.mix + nextB s + 1) = 5 * s.mix + nextB s + 1 := w64 (by omega) (by omega)
  unfold nextM
  rw [e1, e2, e3]
  exact tmod_lt (by omega) (by omega)
theorem idle_f {s : Stm} {n : Int} (h : idle s n = false) : 2 ≤ n ∧ s.bs.length ≠ 0 := by
  unfold idle at h
  by_cases x : n < 2
  · rw [if_pos x] at h; cases h
  · rw [if_neg x] at h; exact ⟨by omega, by simpa using h⟩
theorem StmB.mono {K M : Int} {s : Stm} (h : StmB K s) (hK : K ≤ M) : StmB M s := ⟨⟨h.used.1, by have := h.used; omega⟩, h.mix, h.bs⟩
theorem StmB.next {K : Int} {s : Stm} (h : StmB K s) (hK : K ≤ 1000000000000000) (n : Int) : StmB (K + 1) (nextS s n) := by
  unfold nextS
  cases hi : idle s n with
  | true => exact h.mono (by omega)
  | false =>
    obtain ⟨_, hb⟩ := idle_f hi
    have hu := h.used
    have e : wr (s.used + 1) = s.used + 1 := w64 (by omega) (by omega)
    refine ⟨?_, nextM_in h hK hb, h.bs⟩
    show 0 ≤ wr (s.used + 1) ∧ wr (s.used + 1) ≤ K + 1
    rw [e]; omega
theorem nextV_in {K : Int} {s : Stm} (h : StmB K s) (hK : K ≤ 1000000000000000) (n : Int) : 0 ≤ nextV s n ∧ (1 ≤ n → nextV s n < n) := by
  unfold nextV
  cases hi : idle s n with
  | true => exact ⟨Int.le_refl _, fun h => by show (0 : Int) < n; omega⟩
  | false =>
    obtain ⟨hn, hb⟩ := idle_f hi
    have h1 := nextB_in h hK hb
    have h2 := nextM_in h hK hb
    have e1 : wr (256 * nextB s) = 256 * nextB s := w64 (by omega) (by omega)
    have e2 : wr (256 * nextB s + nextM s) = 256 * nextB s + nextM s := w64 (by omega) (by omega)
    rw [e1, e2]
    have := tmod_lt (a := if 256 < n then 256 * nextB s + nextM s else nextB s) (b := n) (by split <;> omega) (by omega)
    exact ⟨this.1, fun _ => this.2⟩
theorem witV_in {K : Int} {s : Stm} (h : StmB K s) (hK : K ≤ 1000000000000000) {lo hi : Int} (h1 : -1000000000 ≤ lo) (h2 : lo ≤ hi) (h3 : hi ≤ 1000000000) : lo ≤ witV s lo hi ∧ witV s lo hi ≤ hi := by
  have e1 : wr (hi - lo) = hi - lo := w64 (by omega) (by omega)
  have e2 : wr (hi - lo + 1) = hi - lo + 1 := w64 (by omega) (by omega)
  unfold witV witN
  rw [e1, e2]
  have := nextV_in h hK (hi - lo + 1)
  have h4 := this.2 (by omega)
  have e3 : wr (lo + nextV s (hi - lo + 1)) = lo + nextV s (hi - lo + 1) := w64 (by omega) (by omega)
  rw [e3]; omega
end Go.Bal

