/- Package balance: what Reached returns. -/
import Derived.Test.YtonddbmhljelgaaBalT15
import Derived.Test.YtonddbmhljelgaaBalR
import Derived.Test.YtonddbmhljelgaaBalS
import Derived.Test.YtonddbmhljelgaaBalO
import Derived.Test.YtonddbmhljelgaaBalZ
set_option linter.unusedVariables false
set_option linter.unusedSimpArgs false
namespace Go.Bal
open Go
variable {N : NetL} {T : TruthL}
theorem reached_ok (h : checkL N = 0) (hc : setC N = 0) {r : Nat} (hr : r < N.r.length) {f : Int} (hf : -100000000 ≤ f ∧ f ≤ 100000000) :
    (NRF.mk N r f).sh.isSome = true ∧ ((NRF.mk N r f).res.2 = (NRF.mk N r f).need ↔ (gD (spF N) r).lo ≤ f ∧ f ≤ (gD (spF N) r).hi) ∧
    ((NRF.mk N r f).res.2 = (NRF.mk N r f).need → Can N (truthM (NRF.mk N r f).res.1) ∧ gD (truthM (NRF.mk N r f).res.1).f r = f) := by
  have hg := good_of h
  obtain ⟨h2, π, hs⟩ := settled_ok h
  obtain ⟨l1, l2, l3⟩ := set_len h2
  have hS := inS_of h (by omega)
  have hri : r < (setD N).all.length := by omega
  have hsm := set_small h hri
  have hsp := flow_span h hc hr
  obtain ⟨Tl, cl, el⟩ := hsp.lo
  obtain ⟨Th, ch, eh⟩ := hsp.hi
  have ew : getW (setD N).all (r : Int) = gD (setD N).all r := by simp [getW]
  have el' : (NRF.mk N r f).lacks = f - (gD (setD N).all r).now := by
    unfold NRF.lacks; simp only [ew]; exact wr_id (by omega) (by omega)
  have en : (NRF.mk N r f).need = max (f - (gD (setD N).all r).now) (-(f - (gD (setD N).all r).now)) := by
    unfold NRF.need; rw [el', wr_id (n := -(f - (gD (setD N).all r).now)) (by omega) (by omega)]
  have hfu : (3000000000 : Int) < fuel := by unfold fuel; decide
  obtain ⟨d', t, s1, s2, s3, s4, s5, s6, s7⟩ := shiftM_ok (at' := (r : Int)) (up := decide (0 < (NRF.mk N r f).lacks)) (most := (NRF.mk N r f).need) (by rw [en]; omega) fuel (setD N) 0 hS (by omega) (by omega) (by rw [en]; omega)
  have hsh : (NRF.mk N r f).sh = some (d', t) := s1
  have hres : (NRF.mk N r f).res = (d', t) := by unfold NRF.res; rw [hsh]; rfl
  have hL' := hs.like.trans s3
  have e0 : ((r : Nat) : Int).toNat = r := by omega
  rw [e0] at s6
  have hcan := in_can h hL' s2
  have hflow : gD (truthM d').f r = (gD d'.all r).now := truth_gf (by rw [hL'.nR]; exact hr)
  have hnow : t = (NRF.mk N r f).need → (gD d'.all r).now = f := fun ht => by
    rw [s6, ht, en]
    by_cases hl : 0 < (NRF.mk N r f).lacks
    · rw [if_pos (by simpa using hl)]; rw [el'] at hl; omega
    · rw [if_neg (by simpa using hl)]; rw [el'] at hl; omega
  refine ⟨by rw [hsh]; rfl, ?_, ?_⟩
  · rw [hres]
    constructor
    · intro ht
      have := hsp.all _ hcan
      simp only [hflow, hnow ht] at this
      exact this
    · intro hin
      refine Classical.byContradiction fun hne => ?_
      have hst := s7.resolve_left (by simp only at hne; omega)
      have hlt : t < (NRF.mk N r f).need := by
        simp only at hne
        rcases s5 with h5 | h5
        · omega
        · rw [en] at hne ⊢; omega
      have mst := fun (T : TruthL) (hT : Can N T) => stuck_most s2 (can_in hT).1 (alike_back hL' (can_in hT).2) (at' := (r : Int)) (by rw [s3.len]; omega) hst
      have ml := mst Tl cl
      have mh := mst Th ch
      rw [e0, deskT_lo hr] at ml mh
      simp only at ml mh el eh
      by_cases hl : 0 < (NRF.mk N r f).lacks
      · rw [if_pos (by simpa using hl)] at mh s6
        rw [el'] at hl
        rw [en] at hlt
        omega
      · rw [if_neg (by simpa using hl)] at ml s6
        rw [el'] at hl
        rw [en] at hlt
        omega
  · rw [hres]
    intro ht
    exact ⟨hcan, by rw [hflow]; exact hnow ht⟩
end Go.Bal

namespace Go.Bal
open Go
variable {N : NetL} {T : TruthL}
end Go.Bal

namespace Go.Bal
open Go
variable {N : NetL} {T : TruthL}
end Go.Bal



namespace Go.Bal
open Go Go.Sym Go.Proofs
def balL (N : NetL) (T : TruthL) : List Int := if askM N T = 0 then unbM N T else []
def xsNT (a : NT) : List AVal := [.d (eNetL a.N), .d (eTruthL a.T)]
def C47 : Ctr := { α := NT, xs := xsNT, L := fun _ => [], val := fun a => .tup [.d (eIntsL (balL a.N a.T)), .int (askM a.N a.T)], keep := fun _ => [], pre := fun a => [sizeN a.N, sizeT a.T] }
def holdM (N : NetL) (T : TruthL) : Bool := decide (askM N T = 0) && (decide ((unbM N T).length = 0) && decide (costM N T = 0))
def costE (N : NetL) (T : TruthL) : Int := if askM N T = 0 then if (unbM N T).length = 0 then 0 else 7 else askM N T
def costV (N : NetL) (T : TruthL) : Int := if costE N T = 0 then costM N T else 0
def C48 : Ctr := { C47 with val := fun (a : NT) => .tup [.bool (holdM a.N a.T), .int (askM a.N a.T)] }
def A48 := ann 24 [(78, C78.spec d78), (79, C79.spec d78), (70, C70.spec d70)]
def V48 (a : NT) : Prop := fnVC Try.prog A48 Try.f48 (bodyOf Try.f48) (C48.xs a) (heapOf []) (C48.val a) [] [] []
abbrev z48_0 (a : NT) : List Span := rng a.N.g.length fun (i : Nat) => gD a.N.g i
abbrev z48_1 (a : NT) : Nat := (z48_0 a).length
abbrev z48_2 (a : NT) : Prop := z48_1 a = a.N.g.length
abbrev z48_3 (a : NT) (i : Nat) : Span := gD (z48_0 a) i
abbrev z48_4 (a : NT) : Prop := ∀ (i : Nat), i < z48_1 a → (z48_3 a i).lo = (gD a.N.g i).lo ∧ (z48_3 a i).hi = (gD a.N.g i).hi
abbrev z48_5 (a : NT) : List Reach := rng a.N.r.length fun (i : Nat) => gD a.N.r i
abbrev z48_6 (a : NT) : Nat := (z48_5 a).length
abbrev z48_7 (a : NT) : Prop := z48_6 a = a.N.r.length
abbrev z48_8 (a : NT) (i : Nat) : Reach := gD (z48_5 a) i
abbrev z48_9 (a : NT) (i : Nat) : Span := (z48_8 a i).sp
abbrev z48_10 (a : NT) : Prop := ∀ (i : Nat), i < z48_6 a → (z48_8 a i).fr = (gD a.N.r i).fr ∧ (z48_8 a i).to = (gD a.N.r i).to ∧ (z48_9 a i).lo = (gD a.N.r i).sp.lo ∧ (z48_9 a i).hi = (gD a.N.r i).sp.hi
abbrev z48_11 (a : NT) : List Int := rng a.T.f.length fun (i : Nat) => gD a.T.f i
abbrev z48_12 (a : NT) : Nat := (z48_11 a).length
abbrev z48_13 (a : NT) : Prop := z48_12 a = a.T.f.length
abbrev z48_14 (a : NT) : Prop := ∀ (i : Nat), i < z48_12 a → gD (z48_11 a) i = gD a.T.f i
abbrev z48_15 (a : NT) : List Int := rng a.T.t.length fun (i : Nat) => gD a.T.t i
abbrev z48_16 (a : NT) : Nat := (z48_15 a).length
abbrev z48_17 (a : NT) : Prop := z48_16 a = a.T.t.length
abbrev z48_18 (a : NT) : Prop := ∀ (i : Nat), i < z48_16 a → gD (z48_15 a) i = gD a.T.t i
abbrev z48_19 (a : NT) : NetL := NetL.mk (z48_0 a) (z48_5 a)
abbrev z48_20 (a : NT) : TruthL := TruthL.mk (z48_11 a) (z48_15 a)
abbrev z48_21 (a : NT) : Int := askM (z48_19 a) (z48_20 a)
abbrev z48_22 (a : NT) : Prop := z48_12 a = z48_6 a ∧ z48_16 a = z48_1 a
abbrev z48_23 (a : NT) : Bool := (↑(unbM (z48_19 a) (z48_20 a)).length : Int) == 0
theorem vc48 (a : NT) : (V48 a) = ((z48_2 a ∧ z48_4 a ∧ z48_7 a ∧ z48_10 a ∧ z48_13 a ∧ z48_14 a ∧ z48_17 a ∧ z48_18 a ∧ (z48_1 a ≤ 1000000 ∧ z48_6 a ≤ 1000000) ∧ z48_12 a ≤ 1000000 ∧ z48_16 a ≤ 1000000) ∧ bif z48_21 a
 != 0 then holdM a.N a.T = false ∧ askM a.N a.T = z48_21 a else (z48_2 a ∧ z48_4 a ∧ z48_7 a ∧ z48_10 a ∧ z48_13 a ∧ z48_14 a ∧ z48_17 a ∧ z48_18 a ∧ checkL (z48_19 a) = 0 ∧ z48_22 a ∧ (z48_23 a = true → z48_2 a ∧ z48_4 a
 ∧ z48_7 a ∧ z48_10 a ∧ z48_13 a ∧ z48_14 a ∧ z48_17 a ∧ z48_18 a ∧ (1 ≤ z48_1 a ∧ z48_1 a ≤ 1000) ∧ z48_6 a ≤ 1000 ∧ z48_22 a)) ∧ (holdM a.N a.T = bif z48_23 a then costM (z48_19 a) (z48_20 a) == 0 else false) ∧ askM a.N
 a.T = 0) := by kernel_rfl
theorem p48 (a : NT) (h1 : sizeN a.N) (h2 : sizeT a.T) : V48 a := by
  rw [vc48]; delta z48_0 z48_1 z48_2 z48_3 z48_4 z48_5 z48_6 z48_7 z48_8 z48_9 z48_10 z48_11 z48_12 z48_13 z48_14 z48_15 z48_16 z48_17 z48_18 z48_19 z48_20 z48_21 z48_22 z48_23; simp only [condP, eq_self, implies_true, and_self, true_and, and_true, true_implies, forall_const, decide_eq_true_eq, decide_eq_false_iff_not, Int.toNat_natCast, dSpan_eSpan, dReach_eReach, dWay_eWay, dStep_eStep, dFar_eFar, dInt_eInt, Nat.zero_add, Int.zero_sub, Nat.le_eq, Nat.succ_eq_add_one, Nat.add_one_le_iff, Bool.not_eq_true', Bool.not_eq_false', rng_length, dSpan_mk, dReach_mk, dWay_mk, dStep_mk, dFar_mk, rng_getD, DL.d1, DL.d2, DL.d7, DL.d8]
  have hz : (askM a.N a.T != 0) = false → askM a.N a.T = 0 := fun h => by simpa using h
  have hnz : (askM a.N a.T != 0) = true → askM a.N a.T ≠ 0 := fun h => by simpa using h
  refine ⟨⟨h1, h2⟩, fun he => ?_, fun he => ?_⟩
  · unfold holdM; rw [decide_eq_false (hnz he)]; rfl
  · have ha := hz he
    obtain ⟨hc, hl, _, _⟩ := askM_zero ha
    have hg := good_of hc
    refine ⟨⟨hc, hl, fun _ => ⟨⟨hg.g1, by have := hg.g8; omega⟩, by have := hg.r14; omega, hl⟩⟩, ?_, ha⟩
    unfold holdM; rw [decide_eq_true ha]
    by_cases x : (unbM a.N a.T).length = 0 <;> by_cases y : costM a.N a.T = 0 <;> simp [x, y] <;> simp_all
end Go.Bal

namespace Go.Bal
open Go Go.Sym Go.Proofs
def dRow : AVal → Heap → Option (Nat × (Nat → DVal) × List Nat)
  | .d (.list _ n g _), _ => some (n, g, [])
  | .own id _ _ n, H => match H id with
    | .live (.row _ _ g) => some (n, g, [id])
    | _ => none
  | _, _ => none
def dNet : AVal → Heap → Option (NetL × List Nat)
  | .d x, _ => match decNet x with
    | some N => some (N, [])
    | none => none
  | .agg [a, b], H => match dRow a H, dRow b H with
    | some (n, g, f1), some (m, r, f2) => some (⟨rng n fun i => dSpan (g i), rng m fun i => dReach (r i)⟩, f1 ++ f2)
    | _, _ => none
  | _, _ => none
def dInts (a : AVal) (H : Heap) : Option (List Int × List Nat) := match dRow a H with
  | some (n, g, f) => some (rng n fun i => dInt (g i), f)
  | none => none
def dTru : AVal → Heap → Option (TruthL × List Nat)
  | .d (.agg [.list _ n f _, .list _ m g _]), _ => some (⟨rng n fun i => dInt (f i), rng m fun i => dInt (g i)⟩, [])
  | .agg [a, b], H => match dInts a H, dInts b H with
    | some (x, f1), some (y, f2) => some (⟨x, y⟩, f1 ++ f2)
    | _, _ => none
  | _, _ => none
def dN : List AVal → Heap → Option (NetL × List (Nat × Nat) × List Nat)
  | [x], H => match dNet x H with
    | some (N, f) => some (N, [], f)
    | none => none
  | _, _ => none
def dNT : List AVal → Heap → Option (NT × List (Nat × Nat) × List Nat)
  | [x, y], H => match dNet x H, dTru y H with
    | some (N, f), some (T, g) => some (⟨N, T⟩, [], f ++ g)
    | _, _ => none
  | _, _ => none
def agrM (N : NetL) : Bool := decide (checkL N = 0) && decide (setC N = 0)
def corC (N : NetL) : Int := if checkL N = 0 then setC N else 0
def xsN (N : NetL) : List AVal := [.d (eNetL N)]
def C19t : Ctr := { α := NetL, xs := xsN, val := fun N => .tup [.bool (agrM N), .int (checkL N)] }
theorem okT (C : Ctr) {g : FuncId} (h : ∀ a, allP (C.pre a) → FnT Try.prog g (C.xs a) (heapOf (C.L a)) (C.val a) (C.keep a)) (dec : List AVal → Heap → Option (C.α × List (Nat × Nat) × List Nat)) : SpecOk Try.prog g (C.spec dec) := Ctr.spec_ok h dec
theorem ok19t : SpecOk Try.prog 19 (C19t.spec dN) := okT C19t (fun (N : NetL) _ => by
  by_cases h : checkL N = 0
  · have := fnt (A := A19) (xs := C19.xs N) (L := []) (val := C19.val N) (keep := []) (ren := []) (fz := []) Try.func19 (by kernel_rfl) (gok_cons ok55 gok_nil) (p19 N h (settled_ok h).1)
    have e : C19t.val N = C19.val N := by show AVal.tup [.bool (agrM N), .int (checkL N)] = .tup [.bool (decide (setC N = 0)), .int 0]; unfold agrM; rw [h]; rfl
    rw [e]; exact this
  · have := fnt (A := A19b) (xs := C19b.xs N) (L := []) (val := C19b.val N) (keep := []) (ren := []) (fz := []) Try.func19 (by kernel_rfl) (gok_cons ok55b gok_nil) (p19b N h)
    have e : C19t.val N = C19b.val N := by show AVal.tup [.bool (agrM N), .int (checkL N)] = .tup [.bool false, .int (checkL N)]; unfold agrM; rw [decide_eq_false h]; rfl
    rw [e]; exact this) dN
def fitF (N : NetL) : List Span := if fitE N = 0 then spF N else []
def fitG (N : NetL) : List Span := if fitE N = 0 then spG N else []
theorem fitE_zero {N : NetL} : fitE N = 0 ↔ checkL N = 0 ∧ setC N = 0 := by
  unfold fitE
  by_cases h : checkL N = 0
  · rw [if_pos h]
    have := setC_nonneg h
    by_cases h2 : 0 < setC N
    · rw [if_pos h2]; constructor
      · intro h; cases h
      · intro h; omega
    · rw [if_neg h2]; constructor
      · intro _; exact ⟨h, by omega⟩
      · intro _; rfl
  · rw [if_neg h]; constructor
    · intro h2; exact absurd h2 h
    · intro h2; exact absurd h2.1 h
def C34t : Ctr := { α := NetL, xs := xsN, val := fun N => .tup [eSpL (fitF N), eSpL (fitG N), .int (fitE N)] }
theorem ok34t : SpecOk Try.prog 34 (C34t.spec dN) := okT C34t (fun (N : NetL) _ => by
  by_cases h : fitE N = 0
  · obtain ⟨h1, h2⟩ := fitE_zero.1 h
    have := fnt (A := A34 N) (xs := C34.xs N) (L := []) (val := C34.val N) (keep := []) (ren := []) (fz := [210, 211]) Try.func34 (by kernel_rfl) (gok_cons ok73 (gok_cons ok74 gok_nil)) (p34 N h1 (settled_ok h1).1 (by omega) (span_some h1 h2))
    have e : C34t.val N = C34.val N := by show AVal.tup [eSpL (fitF N), eSpL (fitG N), .int (fitE N)] = .tup [eSpL (spF N), eSpL (spG N), .int 0]; unfold fitF fitG; rw [if_pos h, if_pos h, h]
    rw [e]; exact this
  · have := fnt (A := A34b) (xs := C34b.xs N) (L := []) (val := C34b.val N) (keep := []) (ren := []) (fz := []) Try.func34 (by kernel_rfl) (gok_cons ok73b gok_nil) (p34b N h fun h => (settled_ok h).1)
    have e : C34t.val N = C34b.val N := by show AVal.tup [eSpL (fitF N), eSpL (fitG N), .int (fitE N)] = .tup [eSpL [], eSpL [], .int (fitE N)]; unfold fitF fitG; rw [if_neg h, if_neg h]
    rw [e]; exact this) dN
def rchT (a : NRF) : TruthL := if reachE a = 0 then truthM a.res.1 else zT
def C38t : Ctr := { α := NRF, xs := xs38, val := fun a => .tup [.d (eTruthL (rchT a)), .int (reachE a)] }
def d38 : List AVal → Heap → Option (NRF × List (Nat × Nat) × List Nat)
  | [x, .d (.v (.int _ r)), .d (.v (.int _ q))], H => match dNet x H with
    | some (N, f) => some (⟨N, r, q⟩, [], f)
    | none => none
  | _, _ => none
theorem rch_some {a : NRF} (h1 : checkL a.N = 0) (h2 : inM a.r 0 (a.N.r.length - 1) = true) (h3 : ¬ 0 < setC a.N) (h4 : inM a.f (-100000000) 100000000 = true) : a.sh.isSome = true := by
  obtain ⟨N, r, f⟩ := a
  have h2 := inM_iff.1 h2
  have h4 := inM_iff.1 h4
  simp only at h1 h2 h3 h4
  have := (reached_ok h1 (by have := setC_nonneg h1; omega) (r := r.toNat) (by omega) (f := f) h4).1
  rw [show ((r.toNat : Nat) : Int) = r by omega] at this
  exact this
theorem ok38t : SpecOk Try.prog 38 (C38t.spec d38) := okT C38t (fun (a : NRF) _ => by
  by_cases h : reachE a = 0
  · obtain ⟨c1, c2, c3, c4, c5⟩ := reachE_ok h
    have := fnt (A := A38) (xs := C38.xs a) (L := []) (val := C38.val a) (keep := []) (ren := []) (fz := [15016, 15017]) Try.func38 (by kernel_rfl) (gok_cons ok44 (gok_cons ok62 (gok_cons ok73 (gok_cons ok77 (gok_cons ok56 gok_nil))))) (p38 a h (settled_ok c1).1 (rch_some c1 c2 c3 c4))
    have e : C38t.val a = C38.val a := by show AVal.tup [.d (eTruthL (rchT a)), .int (reachE a)] = .tup [.d (eTruthL (truthM a.res.1)), .int 0]; unfold rchT; rw [if_pos h, h]
    rw [e]; exact this
  · have e : C38t.val a = C38b.val a := by show AVal.tup [.d (eTruthL (rchT a)), .int (reachE a)] = .tup [.d (eTruthL zT), .int (reachE a)]; unfold rchT; rw [if_neg h]
    rw [e]
    by_cases h6 : 0 < setC a.N
    · exact fnt (A := A38e) (xs := C38b.xs a) (L := []) (val := C38b.val a) (keep := []) (ren := []) (fz := []) Try.func38 (by kernel_rfl) (gok_cons ok44 (gok_cons ok62 (gok_cons ok73b gok_nil))) (p38e a h (fun h => (settled_ok h).1) h6)
    · exact fnt (A := A38) (xs := C38b.xs a) (L := []) (val := C38b.val a) (keep := []) (ren := []) (fz := []) Try.func38 (by kernel_rfl) (gok_cons ok44 (gok_cons ok62 (gok_cons ok73 (gok_cons ok77 (gok_cons ok56 gok_nil))))) (p38b a h (fun h => (settled_ok h).1) (fun h1 h2 h3 h4 => rch_some h1 h2 h3 h4) h6)) d38
end Go.Bal
