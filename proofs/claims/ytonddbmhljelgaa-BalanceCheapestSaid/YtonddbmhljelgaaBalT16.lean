/- Package balance: truths that can be, and the narrowest spans. -/
import Derived.Test.YtonddbmhljelgaaBalT15
import Derived.Test.YtonddbmhljelgaaBalN
import Derived.Test.YtonddbmhljelgaaBalS
import Derived.Test.YtonddbmhljelgaaBalO
import Derived.Test.YtonddbmhljelgaaBalZ
set_option linter.unusedVariables false
set_option linter.unusedSimpArgs false
namespace Go.Bal
open Go
variable {N : NetL} {T : TruthL}
structure Can (N : NetL) (T : TruthL) : Prop where
  ask : askM N T = 0
  unb : unbM N T = []
  cost : costM N T = 0
theorem like_spans (hg : Good N) {d : Desk} (hl : Alike (begunM N) d) : ∀ i, i < d.all.length → -1000000 ≤ (gD d.all i).sp.lo ∧ (gD d.all i).sp.lo ≤ (gD d.all i).sp.hi ∧ (gD d.all i).sp.hi ≤ 1000000 := fun i hi => by
  have h := (begun_sp hg (i := i) (by rw [← hl.len]; exact hi)).1
  rw [← (hl.way i (by rw [← hl.len]; exact hi)).2.2] at h
  exact h
theorem off_zero {l : List Way} (h : offL l = 0) {i : Nat} (hi : i < l.length) : (gD l i).sp.lo ≤ (gD l i).now ∧ (gD l i).now ≤ (gD l i).sp.hi := by
  have := sumL_zero (fun w _ => by unfold offI; omega) h (gD l i) (gD_mem hi)
  unfold offI at this
  omega
theorem off_in {l : List Way} (h : ∀ i, i < l.length → (gD l i).sp.lo ≤ (gD l i).now ∧ (gD l i).now ≤ (gD l i).sp.hi) : offL l = 0 := by
  unfold offL
  rw [sumL_congr (g := fun _ => 0) fun w hw => ?_]
  · rw [sumL_idx, sumN_zero]
  · obtain ⟨i, hi, rfl⟩ := mem_gD hw
    have := h i hi
    unfold offI; omega
theorem can_in (h : Can N T) : InS (deskT N T) ∧ Alike (begunM N) (deskT N T) := by
  obtain ⟨hc, l1, l2, hT⟩ := askM_to h.ask
  have hg := good_of hc
  have hz := h.cost
  rw [costT hg.w l1 l2 hT] at hz
  refine ⟨⟨(deskT_lay hg.w).ok, fun i hi => ?_, fun i hi => off_zero hz hi, (unb_iff hg.w l1 l2 hT).1 h.unb⟩, deskT_like⟩
  have := like_spans hg (deskT_like (T := T)) i hi
  omega
theorem can_zero (h : Can N T) : setC N = 0 := by
  have h1 := set_least h.ask h.unb
  have h2 := setC_nonneg (askM_to h.ask).1
  have := h.cost
  omega
def balN (N : NetL) (T : TruthL) (s : Nat) : Int := gD T.t s + sumN N.r.length fun i => bS s (gD N.r i) (gD T.f i)
theorem bal_N (hg : GoodW N) (h1 : T.f.length = N.r.length) (h2 : T.t.length = N.g.length) (hT : SmallT T) {s : Nat} (hs : s < N.g.length) : balAt N T s = balN N T s := by
  have := hg.r14
  unfold balAt balN
  exact balF_sum (B := 100000000) (by omega) s N.r T.f (gD T.t s) 100000000 h1.symm hT.1 (hT.2 s (by omega)) (by omega)
theorem unb_balN (hg : GoodW N) (h1 : T.f.length = N.r.length) (h2 : T.t.length = N.g.length) (hT : SmallT T) : unbM N T = [] ↔ ∀ s, s < N.g.length → balN N T s = 0 := by
  unfold unbM unbK
  rw [List.map_eq_nil_iff, List.filter_eq_nil_iff]
  simp only [List.mem_range, unbB, Bool.not_eq_true', decide_eq_false_iff_not, Decidable.not_not]
  constructor
  · intro h s hs; rw [← bal_N hg h1 h2 hT hs]; exact h s hs
  · intro h s hs; rw [bal_N hg h1 h2 hT hs]; exact h s hs
theorem can_iff (h : checkL N = 0) : Can N T ↔ (T.f.length = N.r.length ∧ T.t.length = N.g.length) ∧ (∀ i, i < N.r.length → (gD N.r i).sp.lo ≤ gD T.f i ∧ gD T.f i ≤ (gD N.r i).sp.hi) ∧ (∀ j, j < N.g.length → (gD N.g j).lo ≤ gD T.t j ∧ gD T.t j ≤ (gD N.g j).hi) ∧ ∀ s, s < N.g.length → balN N T s = 0 := by
  have hg := good_of h
  constructor
  · intro hC
    obtain ⟨_, l1, l2, hT⟩ := askM_to hC.ask
    obtain ⟨hi, _⟩ := can_in hC
    refine ⟨⟨l1, l2⟩, fun i hi' => ?_, fun j hj => ?_, (unb_balN hg.w l1 l2 hT).1 hC.unb⟩
    · have := hi.now i (by rw [deskT_len]; omega)
      rw [deskT_lo hi'] at this; exact this
    · have := hi.now (N.r.length + j) (by rw [deskT_len]; omega)
      rw [deskT_hi hj] at this; exact this
  · rintro ⟨⟨l1, l2⟩, h1, h2, h3⟩
    have hT : SmallT T := ⟨fun i hi => by have := h1 i (by omega); have := (hg.r i (by omega)).1; omega, fun i hi => by have := h2 i (by omega); have := hg.g i (by omega); omega⟩
    refine ⟨askM_of h l1 l2 hT, (unb_balN hg.w l1 l2 hT).2 h3, ?_⟩
    rw [costT hg.w l1 l2 hT]
    refine off_in fun i hi => ?_
    rw [deskT_len] at hi
    revert i
    refine ways_all (fun i hi => ?_) (fun j hj => ?_)
    · rw [deskT_lo hi]; exact h1 i hi
    · rw [deskT_hi hj]; exact h2 j hj
structure IsSpan (N : NetL) (f : TruthL → Int) (s : Span) : Prop where
  lo : ∃ T, Can N T ∧ f T = s.lo
  hi : ∃ T, Can N T ∧ f T = s.hi
  all : ∀ T, Can N T → s.lo ≤ f T ∧ f T ≤ s.hi
theorem IsSpan.uniq {f : TruthL → Int} {s t : Span} (h : IsSpan N f s) (k : IsSpan N f t) : s = t := by
  obtain ⟨T1, c1, e1⟩ := h.lo
  obtain ⟨T2, c2, e2⟩ := h.hi
  obtain ⟨T3, c3, e3⟩ := k.lo
  obtain ⟨T4, c4, e4⟩ := k.hi
  have := k.all T1 c1
  have := k.all T2 c2
  have := h.all T3 c3
  have := h.all T4 c4
  obtain ⟨a, b⟩ := s
  obtain ⟨c, d⟩ := t
  simp only at *
  rw [show a = c by omega, show b = d by omega]
theorem IsSpan.le {f : TruthL → Int} {s : Span} (h : IsSpan N f s) : s.lo ≤ s.hi := by
  obtain ⟨T1, c1, e1⟩ := h.lo
  have := h.all T1 c1
  omega
end Go.Bal

namespace Go.Bal
open Go Go.Sym Go.Proofs
structure NRF where
  N : NetL
  r : Int
  f : Int
def NRF.lacks (a : NRF) : Int := wr (a.f - (getW (setD a.N).all a.r).now)
def NRF.need (a : NRF) : Int := max a.lacks (wr (-a.lacks))
def NRF.sh (a : NRF) : Option (Desk × Int) := shiftV (setD a.N) a.r (decide (0 < a.lacks)) a.need
def NRF.res (a : NRF) : Desk × Int := a.sh.getD default
end Go.Bal

namespace Go.Bal
open Go
variable {N : NetL} {T : TruthL}
end Go.Bal

namespace Go.Bal
open Go
variable {N : NetL} {T : TruthL}
end Go.Bal

namespace Go.Bal
open Go
variable {N : NetL} {T : TruthL}
end Go.Bal



namespace Go.Bal
open Go Go.Sym Go.Proofs
def balL (N : NetL) (T : TruthL) : List Int := if askM N T = 0 then unbM N T else []
def xsNT (a : NT) : List AVal := [.d (eNetL a.N), .d (eTruthL a.T)]
def C47 : Ctr := { α := NT, xs := xsNT, L := fun _ => [], val := fun a => .tup [.d (eIntsL (balL a.N a.T)), .int (askM a.N a.T)], keep := fun _ => [], pre := fun a => [sizeN a.N, sizeT a.T] }
def costE (N : NetL) (T : TruthL) : Int := if askM N T = 0 then if (unbM N T).length = 0 then 0 else 7 else askM N T
def costV (N : NetL) (T : TruthL) : Int := if costE N T = 0 then costM N T else 0
def C42 : Ctr := { C47 with val := fun (a : NT) => .tup [.int (costV a.N a.T), .int (costE a.N a.T)] }
def A42 := ann 21 [(78, C78.spec d78), (79, C79.spec d78), (70, C70.spec d70)]
def V42 (a : NT) : Prop := fnVC Try.prog A42 Try.f42 (bodyOf Try.f42) (C42.xs a) (heapOf []) (C42.val a) [] [] []
abbrev z42_0 (a : NT) : List Span := rng a.N.g.length fun (i : Nat) => gD a.N.g i
abbrev z42_1 (a : NT) : Nat := (z42_0 a).length
abbrev z42_2 (a : NT) : Prop := z42_1 a = a.N.g.length
abbrev z42_3 (a : NT) (i : Nat) : Span := gD (z42_0 a) i
abbrev z42_4 (a : NT) : Prop := ∀ (i : Nat), i < z42_1 a → (z42_3 a i).lo = (gD a.N.g i).lo ∧ (z42_3 a i).hi = (gD a.N.g i).hi
abbrev z42_5 (a : NT) : List Reach := rng a.N.r.length fun (i : Nat) => gD a.N.r i
abbrev z42_6 (a : NT) : Nat := (z42_5 a).length
abbrev z42_7 (a : NT) : Prop := z42_6 a = a.N.r.length
abbrev z42_8 (a : NT) (i : Nat) : Reach := gD (z42_5 a) i
abbrev z42_9 (a : NT) (i : Nat) : Span := (z42_8 a i).sp
abbrev z42_10 (a : NT) : Prop := ∀ (i : Nat), i < z42_6 a → (z42_8 a i).fr = (gD a.N.r i).fr ∧ (z42_8 a i).to = (gD a.N.r i).to ∧ (z42_9 a i).lo = (gD a.N.r i).sp.lo ∧ (z42_9 a i).hi = (gD a.N.r i).sp.hi
abbrev z42_11 (a : NT) : List Int := rng a.T.f.length fun (i : Nat) => gD a.T.f i
abbrev z42_12 (a : NT) : Nat := (z42_11 a).length
abbrev z42_13 (a : NT) : Prop := z42_12 a = a.T.f.length
abbrev z42_14 (a : NT) : Prop := ∀ (i : Nat), i < z42_12 a → gD (z42_11 a) i = gD a.T.f i
abbrev z42_15 (a : NT) : List Int := rng a.T.t.length fun (i : Nat) => gD a.T.t i
abbrev z42_16 (a : NT) : Nat := (z42_15 a).length
abbrev z42_17 (a : NT) : Prop := z42_16 a = a.T.t.length
abbrev z42_18 (a : NT) : Prop := ∀ (i : Nat), i < z42_16 a → gD (z42_15 a) i = gD a.T.t i
abbrev z42_19 (a : NT) : NetL := NetL.mk (z42_0 a) (z42_5 a)
abbrev z42_20 (a : NT) : TruthL := TruthL.mk (z42_11 a) (z42_15 a)
abbrev z42_21 (a : NT) : Int := askM (z42_19 a) (z42_20 a)
abbrev z42_22 (a : NT) : Prop := costV a.N a.T = 0
abbrev z42_23 (a : NT) : Prop := z42_12 a = z42_6 a ∧ z42_16 a = z42_1 a
theorem vc42 (a : NT) : (V42 a) = ((z42_2 a ∧ z42_4 a ∧ z42_7 a ∧ z42_10 a ∧ z42_13 a ∧ z42_14 a ∧ z42_17 a ∧ z42_18 a ∧ (z42_1 a ≤ 1000000 ∧ z42_6 a ≤ 1000000) ∧ z42_12 a ≤ 1000000 ∧ z42_16 a ≤ 1000000) ∧ bif z42_21 a
 != 0 then z42_22 a ∧ costE a.N a.T = z42_21 a else (z42_2 a ∧ z42_4 a ∧ z42_7 a ∧ z42_10 a ∧ z42_13 a ∧ z42_14 a ∧ z42_17 a ∧ z42_18 a ∧ checkL (z42_19 a) = 0 ∧ z42_23 a) ∧ bif decide ((↑(unbM (z42_19 a) (z42_20
 a)).length : Int) > 0) then z42_22 a ∧ costE a.N a.T = 7 else (z42_2 a ∧ z42_4 a ∧ z42_7 a ∧ z42_10 a ∧ z42_13 a ∧ z42_14 a ∧ z42_17 a ∧ z42_18 a ∧ (1 ≤ z42_1 a ∧ z42_1 a ≤ 1000) ∧ z42_6 a ≤ 1000 ∧ z42_23 a) ∧ costV a.N
 a.T = costM (z42_19 a) (z42_20 a) ∧ costE a.N a.T = 0) := by kernel_rfl
theorem p42 (a : NT) (h1 : sizeN a.N) (h2 : sizeT a.T) : V42 a := by
  rw [vc42]; delta z42_0 z42_1 z42_2 z42_3 z42_4 z42_5 z42_6 z42_7 z42_8 z42_9 z42_10 z42_11 z42_12 z42_13 z42_14 z42_15 z42_16 z42_17 z42_18 z42_19 z42_20 z42_21 z42_22 z42_23; simp only [condP, eq_self, implies_true, and_self, true_and, and_true, true_implies, forall_const, decide_eq_true_eq, decide_eq_false_iff_not, Int.toNat_natCast, dSpan_eSpan, dReach_eReach, dWay_eWay, dStep_eStep, dFar_eFar, dInt_eInt, Nat.zero_add, Int.zero_sub, Nat.le_eq, Nat.succ_eq_add_one, Nat.add_one_le_iff, Bool.not_eq_true', Bool.not_eq_false', rng_length, dSpan_mk, dReach_mk, dWay_mk, dStep_mk, dFar_mk, rng_getD, DL.d1, DL.d2, DL.d7, DL.d8]
  have hz : (askM a.N a.T != 0) = false → askM a.N a.T = 0 := fun h => by simpa using h
  have hnz : (askM a.N a.T != 0) = true → askM a.N a.T ≠ 0 := fun h => by simpa using h
  refine ⟨⟨h1, h2⟩, fun he => ?_, fun he => ?_⟩
  · have : costE a.N a.T = askM a.N a.T := by unfold costE; rw [if_neg (hnz he)]
    exact ⟨by unfold costV; rw [this, if_neg (hnz he)], this⟩
  · have ha := hz he
    obtain ⟨hc, hl, _, _⟩ := askM_zero ha
    have hg := good_of hc
    refine ⟨⟨hc, hl⟩, fun hu => ?_, fun hu => ⟨⟨⟨hg.g1, by have := hg.g8; omega⟩, by have := hg.r14; omega, hl⟩, ?_⟩⟩
    · have : costE a.N a.T = 7 := by unfold costE; rw [if_pos ha, if_neg (by omega)]
      exact ⟨by unfold costV; rw [this]; rfl, this⟩
    · have : costE a.N a.T = 0 := by unfold costE; rw [if_pos ha, if_pos (by omega)]
      exact ⟨by unfold costV; rw [if_pos this], this⟩
end Go.Bal

namespace Go.Bal
open Go Go.Sym Go.Proofs
def dRow : AVal → Heap → Option (Nat × (Nat → DVal) × List Nat)
  | .d (.list _ n g _), _ => some (n, g, [])
  | .own id _ _ n, H => match H id with
    | .live (.row _ _ g) => some (n, g, [id])
    | _ => none
  | _, _ => none
def dNet : AVal → Heap → Option (NetL × List Nat)
  | .d x, _ => match decNet x with
    | some N => some (N, [])
    | none => none
  | .agg [a, b], H => match dRow a H, dRow b H with
    | some (n, g, f1), some (m, r, f2) => some (⟨rng n fun i => dSpan (g i), rng m fun i => dReach (r i)⟩, f1 ++ f2)
    | _, _ => none
  | _, _ => none
def dInts (a : AVal) (H : Heap) : Option (List Int × List Nat) := match dRow a H with
  | some (n, g, f) => some (rng n fun i => dInt (g i), f)
  | none => none
def dTru : AVal → Heap → Option (TruthL × List Nat)
  | .d (.agg [.list _ n f _, .list _ m g _]), _ => some (⟨rng n fun i => dInt (f i), rng m fun i => dInt (g i)⟩, [])
  | .agg [a, b], H => match dInts a H, dInts b H with
    | some (x, f1), some (y, f2) => some (⟨x, y⟩, f1 ++ f2)
    | _, _ => none
  | _, _ => none
def dN : List AVal → Heap → Option (NetL × List (Nat × Nat) × List Nat)
  | [x], H => match dNet x H with
    | some (N, f) => some (N, [], f)
    | none => none
  | _, _ => none
def dNT : List AVal → Heap → Option (NT × List (Nat × Nat) × List Nat)
  | [x, y], H => match dNet x H, dTru y H with
    | some (N, f), some (T, g) => some (⟨N, T⟩, [], f ++ g)
    | _, _ => none
  | _, _ => none
def agrM (N : NetL) : Bool := decide (checkL N = 0) && decide (setC N = 0)
def corT (N : NetL) : TruthL := if checkL N = 0 then setT N else zT
def corC (N : NetL) : Int := if checkL N = 0 then setC N else 0
def levT (N : NetL) : List Int := if checkL N = 0 then levM N else []
def xsN (N : NetL) : List AVal := [.d (eNetL N)]
def C19t : Ctr := { α := NetL, xs := xsN, val := fun N => .tup [.bool (agrM N), .int (checkL N)] }
def C20t : Ctr := { α := NetL, xs := xsN, val := fun N => .tup [.d (eTruthL (corT N)), .int (corC N), .int (checkL N)] }
def C21t : Ctr := { α := NetL, xs := xsN, val := fun N => .tup [.d (eIntsL (levT N)), .int (checkL N)] }
theorem okT (C : Ctr) {g : FuncId} (h : ∀ a, allP (C.pre a) → FnT Try.prog g (C.xs a) (heapOf (C.L a)) (C.val a) (C.keep a)) (dec : List AVal → Heap → Option (C.α × List (Nat × Nat) × List Nat)) : SpecOk Try.prog g (C.spec dec) := Ctr.spec_ok h dec
theorem ok19t : SpecOk Try.prog 19 (C19t.spec dN) := okT C19t (fun (N : NetL) _ => by
  by_cases h : checkL N = 0
  · have := fnt (A := A19) (xs := C19.xs N) (L := []) (val := C19.val N) (keep := []) (ren := []) (fz := []) Try.func19 (by kernel_rfl) (gok_cons ok55 gok_nil) (p19 N h (settled_ok h).1)
    have e : C19t.val N = C19.val N := by show AVal.tup [.bool (agrM N), .int (checkL N)] = .tup [.bool (decide (setC N = 0)), .int 0]; unfold agrM; rw [h]; rfl
    rw [e]; exact this
  · have := fnt (A := A19b) (xs := C19b.xs N) (L := []) (val := C19b.val N) (keep := []) (ren := []) (fz := []) Try.func19 (by kernel_rfl) (gok_cons ok55b gok_nil) (p19b N h)
    have e : C19t.val N = C19b.val N := by show AVal.tup [.bool (agrM N), .int (checkL N)] = .tup [.bool false, .int (checkL N)]; unfold agrM; rw [decide_eq_false h]; rfl
    rw [e]; exact this) dN
theorem ok20t : SpecOk Try.prog 20 (C20t.spec dN) := okT C20t (fun (N : NetL) _ => by
  by_cases h : checkL N = 0
  · have := fnt (A := A20) (xs := C20.xs N) (L := []) (val := C20.val N) (keep := []) (ren := []) (fz := [5016, 5017]) Try.func20 (by kernel_rfl) (gok_cons ok55 (gok_cons ok56 gok_nil)) (p20 N h (settled_ok h).1)
    have e : C20t.val N = C20.val N := by show AVal.tup [.d (eTruthL (corT N)), .int (corC N), .int (checkL N)] = .tup [.d (eTruthL (truthM (setD N))), .int (setC N), .int 0]; unfold corT corC; rw [if_pos h, if_pos h, h]; rfl
    rw [e]; exact this
  · have := fnt (A := A20b) (xs := C20b.xs N) (L := []) (val := C20b.val N) (keep := []) (ren := []) (fz := []) Try.func20 (by kernel_rfl) (gok_cons ok55b gok_nil) (p20b N h)
    have e : C20t.val N = C20b.val N := by show AVal.tup [.d (eTruthL (corT N)), .int (corC N), .int (checkL N)] = .tup [.d (eTruthL zT), .int 0, .int (checkL N)]; unfold corT corC; rw [if_neg h, if_neg h]
    rw [e]; exact this) dN
theorem ok21t : SpecOk Try.prog 21 (C21t.spec dN) := okT C21t (fun (N : NetL) _ => by
  by_cases h : checkL N = 0
  · have := fnt (A := A21 N) (xs := C21.xs N) (L := []) (val := C21.val N) (keep := []) (ren := []) (fz := [202]) Try.func21 (by kernel_rfl) (gok_cons ok55 (gok_cons ok57l gok_nil)) (p21 N h (settled_ok h).1 (reach_out_ok h))
    have e : C21t.val N = C21.val N := by show AVal.tup [.d (eIntsL (levT N)), .int (checkL N)] = .tup [.d (eIntsL (levM N)), .int 0]; unfold levT; rw [if_pos h, h]
    rw [e]; exact this
  · have := fnt (A := A21b) (xs := C21b.xs N) (L := []) (val := C21b.val N) (keep := []) (ren := []) (fz := []) Try.func21 (by kernel_rfl) (gok_cons ok55b gok_nil) (p21b N h)
    have e : C21t.val N = C21b.val N := by show AVal.tup [.d (eIntsL (levT N)), .int (checkL N)] = .tup [.d (eIntsL []), .int (checkL N)]; unfold levT; rw [if_neg h]
    rw [e]; exact this) dN
end Go.Bal
