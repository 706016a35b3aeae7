/- Package balance: settled, fitting, Agrees, Correct, Levels. -/
import Derived.Test.YtonddbmhljelgaaBalJ
set_option linter.unusedVariables false
set_option linter.unusedSimpArgs false
namespace Go.Bal
open Go Go.Sym Go.Proofs
def netF (N : NetL) : Net := ⟨N.g.length, fun i => gD N.g i, N.r.length, fun i => gD N.r i⟩
def checkL (N : NetL) : Int := checkM (netF N)
def setD (N : NetL) : Desk := ((settledV N).getD default).1
def setC (N : NetL) : Int := ((settledV N).getD default).2
def nilP : AVal := .d (.v (.pointer none))
theorem inM_iff {a b c : Int} : inM a b c = true ↔ b ≤ a ∧ a ≤ c := by simp [inM]
theorem flowM_iff {s : Span} : flowM s = true ↔ (-1000000 ≤ s.lo ∧ s.lo ≤ s.hi) ∧ s.hi ≤ 1000000 := by
  unfold flowM; simp only [Bool.and_eq_true, inM_iff]; omega
theorem first0_zero {e : Nat → Int} : ∀ {n k : Nat}, first0 e n k = 0 → ∀ i, k ≤ i → i < k + n → e i = 0
  | 0, k, _, i, h1, h2 => by omega
  | n + 1, k, h, i, h1, h2 => by
    simp only [first0] at h
    by_cases he : e k = 0
    · rw [if_pos he] at h
      by_cases hi : i = k
      · subst hi; exact he
      · exact first0_zero h i (by omega) (by omega)
    · rw [if_neg he] at h; exact absurd h he
structure Good (N : NetL) : Prop where
  g1 : 1 ≤ N.g.length
  g8 : N.g.length ≤ 8
  r14 : N.r.length ≤ 14
  g : ∀ i, i < N.g.length → (-1000000 ≤ (gD N.g i).lo ∧ (gD N.g i).lo ≤ (gD N.g i).hi) ∧ (gD N.g i).hi ≤ 1000000
  r : ∀ i, i < N.r.length → ((-1000000 ≤ (gD N.r i).sp.lo ∧ (gD N.r i).sp.lo ≤ (gD N.r i).sp.hi) ∧ (gD N.r i).sp.hi ≤ 1000000) ∧ (0 ≤ (gD N.r i).fr ∧ (gD N.r i).fr < N.g.length) ∧ (0 ≤ (gD N.r i).to ∧ (gD N.r i).to < N.g.length) ∧ (gD N.r i).fr ≠ (gD N.r i).to
theorem good_of {N : NetL} (h : checkL N = 0) : Good N := by
  unfold checkL checkM at h
  split at h
  · cases h
  rename_i h1
  split at h
  case isFalse => cases h
  rename_i h2
  have h1 : inM (netF N).nG 1 8 = true ∧ ¬ 14 < (netF N).nR := by
    simp only [Bool.or_eq_true, Bool.not_eq_true', decide_eq_true_eq, not_or, Bool.not_eq_false] at h1; exact h1
  have h3 := inM_iff.1 h1.1
  have hg : (netF N).nG = N.g.length := rfl
  have hr : (netF N).nR = N.r.length := rfl
  rw [hg] at h3
  have h14 := h1.2
  rw [hr] at h14
  refine ⟨by omega, by omega, by omega, fun i hi => flowM_iff.1 (allB_iff.1 h2 i hi), fun i hi => ?_⟩
  have := first0_zero h i (Nat.zero_le _) (by rw [hr]; omega)
  unfold badR at this
  split at this
  · cases this
  rename_i h4
  split at this
  · rename_i h5
    have h4 : (inM (gD N.r i).fr 0 ((netF N).nG - 1) = true ∧ inM (gD N.r i).to 0 ((netF N).nG - 1) = true) ∧ ¬ (gD N.r i).fr = (gD N.r i).to := by
      simp only [Bool.or_eq_true, Bool.not_eq_true', decide_eq_true_eq, not_or, Bool.not_eq_false] at h4; exact h4
    have h6 := inM_iff.1 h4.1.1
    have h7 := inM_iff.1 h4.1.2
    rw [hg] at h6 h7
    exact ⟨flowM_iff.1 h5, by omega, by omega, h4.2⟩
  · cases this
theorem begun_ok {N : NetL} (h : Good N) : (begunM N).ok := by
  have h1 := h.g1
  have h8 := h.g8
  have h14 := h.r14
  refine ⟨h.g8, by rw [begunM_len]; omega, ?_, fun i hi => ?_⟩
  · rw [begunM_len]; exact Nat.le_refl _
  · rw [begunM_len] at hi
    rw [begunM_all, gD_map _ (by rw [beg_len]; exact hi)]
    show (0 ≤ (gD (begunAll N) i).fr ∧ (gD (begunAll N) i).fr < ((N.g.length : Nat) : Int) + 2) ∧ 0 ≤ (gD (begunAll N) i).to ∧ (gD (begunAll N) i).to < ((N.g.length : Nat) : Int) + 2
    by_cases hr : i < N.r.length
    · rw [beg_lo hr]
      obtain ⟨_, h2, h3, _⟩ := h.r i hr
      exact ⟨⟨h2.1, by show (gD N.r i).fr < _; omega⟩, h3.1, by show (gD N.r i).to < _; omega⟩
    · obtain ⟨j, rfl⟩ : ∃ j, i = N.r.length + j := ⟨i - N.r.length, by omega⟩
      rw [beg_hi (by omega)]
      exact ⟨⟨by simp, by show ((N.g.length : Nat) : Int) < _; omega⟩, by simp, by show ((j : Nat) : Int) < _; omega⟩
def sameD (d d' : Desk) : Prop := d'.all.length = d.all.length ∧ d'.out = d.out ∧ d'.nR = d.nR
theorem settleM_len : ∀ {k : Nat} {d d' : Desk}, settleM k d = some d' → sameD d d'
  | 0, _, _, h => by cases h
  | k + 1, d, d', h => by
    simp only [settleM] at h
    split at h
    · cases h; exact ⟨rfl, rfl, rfl⟩
    · split at h
      · cases h
      · rename_i d1 hd1
        have h2 := settleM_len h
        unfold settleStep at hd1
        simp only at hd1
        split at hd1
        · cases hd1
        split at hd1
        · cases hd1
        split at hd1
        · cases hd1
        rename_i hm
        cases hd1
        have h1 := movedM_len hm
        exact ⟨h2.1.trans h1.1, h2.2.1.trans h1.2.1, h2.2.2.trans h1.2.2⟩
theorem set_eq {N : NetL} (h : (settledV N).isSome = true) : settleV (begunM N) = some (setD N) ∧ setC N = costM N (truthM (setD N)) := by
  unfold setD setC
  unfold settledV at h ⊢
  split at h
  · cases h
  · rename_i d hd
    rw [hd]; exact ⟨rfl, rfl⟩
theorem set_len {N : NetL} (h : (settledV N).isSome = true) : (setD N).all.length = N.r.length + N.g.length ∧ (setD N).out = N.g.length ∧ (setD N).nR = N.r.length := by
  have h1 := settleM_len (set_eq h).1
  exact ⟨h1.1.trans (begunM_len N), h1.2.1, h1.2.2⟩
def A55 : Ann := ann 21 [(44, s44), (67, C67.spec d67), (68, C68.spec dDesk), (56, C56.spec dDesk), (70, C70.spec d70)]
def C55 : Ctr := { α := NetL, xs := fun N => [.d (eNetL N)], L := fun _ => [], val := fun N => .tup [.bptr 0 0, .int (setC N), .int 0], keep := fun N => [(0, .live (deskB (setD N) 1)), (1, .live (deskR (setD N)))], pre := fun N => [checkL N = 0, (settledV N).isSome = true] }
def V55 (N : NetL) : Prop := fnVC Try.prog A55 Try.f55 (bodyOf Try.f55) (C55.xs N) (heapOf (C55.L N)) (C55.val N) (C55.keep N) [(0, 5016), (1, 5017)] []
abbrev z55_0 (N : NetL) : List Span := rng N.g.length fun (i : Nat) => gD N.g i
abbrev z55_1 (N : NetL) : Nat := (z55_0 N).length
abbrev z55_2 (N : NetL) : Prop := z55_1 N = N.g.length
abbrev z55_3 (N : NetL) (i : Nat) : Span := gD (z55_0 N) i
abbrev z55_4 (N : NetL) : Prop := ∀ (i : Nat), i < z55_1 N → (z55_3 N i).lo = (gD N.g i).lo ∧ (z55_3 N i).hi = (gD N.g i).hi
abbrev z55_5 (N : NetL) : List Reach := rng N.r.length fun (i : Nat) => gD N.r i
abbrev z55_6 (N : NetL) : Nat := (z55_5 N).length
abbrev z55_7 (N : NetL) : Prop := z55_6 N = N.r.length
abbrev z55_8 (N : NetL) (i : Nat) : Reach := gD (z55_5 N) i
abbrev z55_9 (N : NetL) (i : Nat) : Span := (z55_8 N i).sp
abbrev z55_10 (N : NetL) : Prop := ∀ (i : Nat), i < z55_6 N → (z55_8 N i).fr = (gD N.r i).fr ∧ (z55_8 N i).to = (gD N.r i).to ∧ (z55_9 N i).lo = (gD N.r i).sp.lo ∧ (z55_9 N i).hi = (gD N.r i).sp.hi
abbrev z55_11 (N : NetL) : Prop := (1 : Nat) ≤ z55_1 N ∧ z55_1 N ≤ (1000 : Nat)
abbrev z55_12 : Prop := (0 : Nat) = (0 : Nat)
abbrev z55_13 (N : NetL) : NetL := NetL.mk (z55_0 N) (z55_5 N)
abbrev z55_14 (N : NetL) : Desk := begunM (z55_13 N)
abbrev z55_15 (N : NetL) : List Way := (z55_14 N).all
abbrev z55_16 (N : NetL) : Nat := (z55_15 N).length
abbrev z55_17 (N : NetL) (i : Nat) : Way := gD (z55_15 N) i
abbrev z55_18 (N : NetL) : List Way := rng (z55_16 N) fun (i : Nat) => z55_17 N i
abbrev z55_19 (N : NetL) : Nat := (z55_18 N).length
abbrev z55_20 (N : NetL) : Prop := z55_19 N = z55_16 N
abbrev z55_21 (N : NetL) : Nat := (z55_14 N).out
abbrev z55_22 (N : NetL) : Nat := (z55_14 N).nR
abbrev z55_23 (N : NetL) (i : Nat) : Way := gD (z55_18 N) i
abbrev z55_24 (N : NetL) (i : Nat) : Span := (z55_23 N i).sp
abbrev z55_25 (N : NetL) (i : Nat) : Span := (z55_17 N i).sp
abbrev z55_26 (N : NetL) : Desk := Desk.mk (z55_18 N) (z55_21 N) (z55_22 N)
abbrev z55_27 (N : NetL) : Option Desk := settleV (z55_26 N)
abbrev z55_28 (N : NetL) : Desk := (z55_27 N).getD default
abbrev z55_29 (N : NetL) : List Way := (z55_28 N).all
abbrev z55_30 (N : NetL) : Nat := (z55_29 N).length
abbrev z55_31 (N : NetL) (i : Nat) : Way := gD (z55_29 N) i
abbrev z55_32 (N : NetL) : List Way := rng (z55_30 N) fun (i : Nat) => z55_31 N i
abbrev z55_33 (N : NetL) : Nat := (z55_32 N).length
abbrev z55_34 (N : NetL) : Prop := z55_33 N = z55_30 N
abbrev z55_35 (N : NetL) : Nat := (z55_28 N).out
abbrev z55_36 (N : NetL) : Prop := (↑(z55_35 N) : Int) = (↑(z55_35 N) : Int)
abbrev z55_37 (N : NetL) : Nat := (z55_28 N).nR
abbrev z55_38 (N : NetL) : Prop := (↑(z55_37 N) : Int) = (↑(z55_37 N) : Int)
abbrev z55_39 (N : NetL) (i : Nat) : Way := gD (z55_32 N) i
abbrev z55_40 (N : NetL) (i : Nat) : Int := (z55_39 N i).fr
abbrev z55_41 (N : NetL) (i : Nat) : Int := (z55_31 N i).fr
abbrev z55_42 (N : NetL) (i : Nat) : Int := (z55_39 N i).to
abbrev z55_43 (N : NetL) (i : Nat) : Int := (z55_31 N i).to
abbrev z55_44 (N : NetL) (i : Nat) : Span := (z55_39 N i).sp
abbrev z55_45 (N : NetL) (i : Nat) : Int := (z55_44 N i).lo
abbrev z55_46 (N : NetL) (i : Nat) : Span := (z55_31 N i).sp
abbrev z55_47 (N : NetL) (i : Nat) : Int := (z55_46 N i).lo
abbrev z55_48 (N : NetL) (i : Nat) : Int := (z55_44 N i).hi
abbrev z55_49 (N : NetL) (i : Nat) : Int := (z55_46 N i).hi
abbrev z55_50 (N : NetL) (i : Nat) : Int := (z55_39 N i).now
abbrev z55_51 (N : NetL) (i : Nat) : Int := (z55_31 N i).now
abbrev z55_52 (N : NetL) : Prop := z55_30 N = z55_33 N
abbrev z55_53 (N : NetL) : TruthL := truthM (Desk.mk (z55_32 N) (z55_35 N) (z55_37 N))
abbrev z55_54 (N : NetL) : List Int := (z55_53 N).f
abbrev z55_55 (N : NetL) : List Int := rng (z55_37 N) fun (i : Nat) => gD (z55_54 N) i
abbrev z55_56 (N : NetL) : Nat := (z55_55 N).length
abbrev z55_57 (j : Nat) : Nat := (0 : Nat) + j
abbrev z55_58 (N : NetL) : List Int := (z55_53 N).t
abbrev z55_59 (N : NetL) : List Int := rng (z55_35 N) fun (i : Nat) => gD (z55_58 N) i
abbrev z55_60 (N : NetL) : Nat := (z55_59 N).length
abbrev z55_61 (N : NetL) : Prop := (setD N).all.length = z55_30 N
theorem vc55 (N : NetL) : (V55 N) = (((∀ (i : Nat), i < N.g.length → True) ∧ ∀ (i : Nat), i < N.r.length → True) ∧ bif checkM (Net.mk N.g.length (fun (i : Nat) => gD N.g i) N.r.length fun (i : Nat) => gD N.r i) != (0 :
 Int) then False else (z55_2 N ∧ z55_4 N ∧ z55_7 N ∧ z55_10 N ∧ z55_11 N ∧ (z55_6 N).le (1000 : Nat)) ∧ (z55_12 ∧ z55_20 N ∧ (↑(z55_21 N) : Int) = (↑(z55_21 N) : Int) ∧ (↑(z55_22 N) : Int) = (↑(z55_22 N) : Int) ∧ z55_20 N
 ∧ (∀ (i : Nat), i < z55_19 N → (z55_23 N i).fr = (z55_17 N i).fr ∧ (z55_23 N i).to = (z55_17 N i).to ∧ (z55_24 N i).lo = (z55_25 N i).lo ∧ (z55_24 N i).hi = (z55_25 N i).hi ∧ (z55_23 N i).now = (z55_17 N i).now) ∧
 (z55_26 N).ok ∧ (z55_27 N).isSome = true) ∧ (z55_12 ∧ z55_34 N ∧ z55_36 N ∧ z55_38 N ∧ z55_34 N ∧ (∀ (i : Nat), i < z55_33 N → z55_40 N i = z55_41 N i ∧ z55_42 N i = z55_43 N i ∧ z55_45 N i = z55_47 N i ∧ z55_48 N i =
 z55_49 N i ∧ z55_50 N i = z55_51 N i) ∧ z55_12 ∧ z55_52 N ∧ z55_36 N ∧ z55_38 N ∧ z55_52 N ∧ (∀ (i : Nat), i < z55_30 N → z55_41 N i = z55_40 N i ∧ z55_43 N i = z55_42 N i ∧ z55_47 N i = z55_45 N i ∧ z55_49 N i = z55_48
 N i ∧ z55_51 N i = z55_50 N i) ∧ ((1 : Nat) ≤ z55_35 N ∧ z55_33 N ≤ (1000 : Nat)) ∧ z55_37 N + z55_35 N ≤ z55_33 N ∧ z55_2 N ∧ z55_4 N ∧ z55_7 N ∧ z55_10 N ∧ z55_56 N = z55_37 N ∧ (0 : Nat) + z55_37 N ≤ z55_37 N ∧ (∀ (j
 : Nat), j < z55_56 N → gD (z55_55 N) j = gD (z55_54 N) (z55_57 j)) ∧ z55_60 N = z55_35 N ∧ (0 : Nat) + z55_35 N ≤ z55_35 N ∧ (∀ (j : Nat), j < z55_60 N → gD (z55_59 N) j = gD (z55_58 N) (z55_57 j)) ∧ z55_11 N ∧ z55_6 N ≤
 (1000 : Nat) ∧ z55_56 N = z55_6 N ∧ z55_60 N = z55_1 N) ∧ setC N = costM (z55_13 N) (TruthL.mk (z55_55 N) (z55_59 N)) ∧ Int.ofNat (0 : Nat) = Int.ofNat (0 : Nat) ∧ z55_12 ∧ z55_61 N ∧ (↑(setD N).out : Int) = (↑(z55_35 N)
 : Int) ∧ (↑(setD N).nR : Int) = (↑(z55_37 N) : Int) ∧ z55_61 N ∧ ∀ (i : Nat), i < (setD N).all.length → (gD (setD N).all i).fr = z55_41 N i ∧ (gD (setD N).all i).to = z55_43 N i ∧ (gD (setD N).all i).sp.lo = z55_47 N i ∧
 (gD (setD N).all i).sp.hi = z55_49 N i ∧ (gD (setD N).all i).now = z55_51 N i) := by kernel_rfl
def C55b : Ctr := { α := NetL, xs := fun N => [.d (eNetL N)], L := fun _ => [], val := fun N => .tup [nilP, .int 0, .int (checkL N)], keep := fun N => [], pre := fun N => [checkL N ≠ 0] }
def V55b (N : NetL) : Prop := fnVC Try.prog A55 Try.f55 (bodyOf Try.f55) (C55b.xs N) (heapOf (C55b.L N)) (C55b.val N) (C55b.keep N) [] []
abbrev z55b_0 (N : NetL) : Int := checkM (Net.mk N.g.length (fun (i : Nat) => gD N.g i) N.r.length fun (i : Nat) => gD N.r i)
abbrev z55b_1 (N : NetL) : List Span := rng N.g.length fun (i : Nat) => gD N.g i
abbrev z55b_2 (N : NetL) : Nat := (z55b_1 N).length
abbrev z55b_3 (N : NetL) : Prop := z55b_2 N = N.g.length
abbrev z55b_4 (N : NetL) (i : Nat) : Span := gD (z55b_1 N) i
abbrev z55b_5 (N : NetL) : Prop := ∀ (i : Nat), i < z55b_2 N → (z55b_4 N i).lo = (gD N.g i).lo ∧ (z55b_4 N i).hi = (gD N.g i).hi
abbrev z55b_6 (N : NetL) : List Reach := rng N.r.length fun (i : Nat) => gD N.r i
abbrev z55b_7 (N : NetL) : Nat := (z55b_6 N).length
abbrev z55b_8 (N : NetL) : Prop := z55b_7 N = N.r.length
abbrev z55b_9 (N : NetL) (i : Nat) : Reach := gD (z55b_6 N) i
abbrev z55b_10 (N : NetL) (i : Nat) : Span := (z55b_9 N i).sp
abbrev z55b_11 (N : NetL) : Prop := ∀ (i : Nat), i < z55b_7 N → (z55b_9 N i).fr = (gD N.r i).fr ∧ (z55b_9 N i).to = (gD N.r i).to ∧ (z55b_10 N i).lo = (gD N.r i).sp.lo ∧ (z55b_10 N i).hi = (gD N.r i).sp.hi
abbrev z55b_12 (N : NetL) : Prop := (1 : Nat) ≤ z55b_2 N ∧ z55b_2 N ≤ (1000 : Nat)
abbrev z55b_13 : Prop := (0 : Nat) = (0 : Nat)
abbrev z55b_14 (N : NetL) : Desk := begunM (NetL.mk (z55b_1 N) (z55b_6 N))
abbrev z55b_15 (N : NetL) : List Way := (z55b_14 N).all
abbrev z55b_16 (N : NetL) : Nat := (z55b_15 N).length
abbrev z55b_17 (N : NetL) (i : Nat) : Way := gD (z55b_15 N) i
abbrev z55b_18 (N : NetL) : List Way := rng (z55b_16 N) fun (i : Nat) => z55b_17 N i
abbrev z55b_19 (N : NetL) : Nat := (z55b_18 N).length
abbrev z55b_20 (N : NetL) : Prop := z55b_19 N = z55b_16 N
abbrev z55b_21 (N : NetL) : Nat := (z55b_14 N).out
abbrev z55b_22 (N : NetL) : Nat := (z55b_14 N).nR
abbrev z55b_23 (N : NetL) (i : Nat) : Way := gD (z55b_18 N) i
abbrev z55b_24 (N : NetL) (i : Nat) : Span := (z55b_23 N i).sp
abbrev z55b_25 (N : NetL) (i : Nat) : Span := (z55b_17 N i).sp
abbrev z55b_26 (N : NetL) : Desk := Desk.mk (z55b_18 N) (z55b_21 N) (z55b_22 N)
abbrev z55b_27 (N : NetL) : Option Desk := settleV (z55b_26 N)
abbrev z55b_28 (N : NetL) : Desk := (z55b_27 N).getD default
abbrev z55b_29 (N : NetL) : List Way := (z55b_28 N).all
abbrev z55b_30 (N : NetL) : Nat := (z55b_29 N).length
abbrev z55b_31 (N : NetL) (i : Nat) : Way := gD (z55b_29 N) i
abbrev z55b_32 (N : NetL) : List Way := rng (z55b_30 N) fun (i : Nat) => z55b_31 N i
abbrev z55b_33 (N : NetL) : Nat := (z55b_32 N).length
abbrev z55b_34 (N : NetL) : Prop := z55b_33 N = z55b_30 N
abbrev z55b_35 (N : NetL) : Nat := (z55b_28 N).out
abbrev z55b_36 (N : NetL) : Prop := (↑(z55b_35 N) : Int) = (↑(z55b_35 N) : Int)
abbrev z55b_37 (N : NetL) : Nat := (z55b_28 N).nR
abbrev z55b_38 (N : NetL) : Prop := (↑(z55b_37 N) : Int) = (↑(z55b_37 N) : Int)
abbrev z55b_39 (N : NetL) (i : Nat) : Way := gD (z55b_32 N) i
abbrev z55b_40 (N : NetL) (i : Nat) : Int := (z55b_39 N i).fr
abbrev z55b_41 (N : NetL) (i : Nat) : Int := (z55b_31 N i).fr
abbrev z55b_42 (N : NetL) (i : Nat) : Int := (z55b_39 N i).to
abbrev z55b_43 (N : NetL) (i : Nat) : Int := (z55b_31 N i).to
abbrev z55b_44 (N : NetL) (i : Nat) : Span := (z55b_39 N i).sp
abbrev z55b_45 (N : NetL) (i : Nat) : Int := (z55b_44 N i).lo
abbrev z55b_46 (N : NetL) (i : Nat) : Span := (z55b_31 N i).sp
abbrev z55b_47 (N : NetL) (i : Nat) : Int := (z55b_46 N i).lo
abbrev z55b_48 (N : NetL) (i : Nat) : Int := (z55b_44 N i).hi
abbrev z55b_49 (N : NetL) (i : Nat) : Int := (z55b_46 N i).hi
abbrev z55b_50 (N : NetL) (i : Nat) : Int := (z55b_39 N i).now
abbrev z55b_51 (N : NetL) (i : Nat) : Int := (z55b_31 N i).now
abbrev z55b_52 (N : NetL) : Prop := z55b_30 N = z55b_33 N
abbrev z55b_53 (N : NetL) : TruthL := truthM (Desk.mk (z55b_32 N) (z55b_35 N) (z55b_37 N))
abbrev z55b_54 (N : NetL) : List Int := (z55b_53 N).f
abbrev z55b_55 (N : NetL) : List Int := rng (z55b_37 N) fun (i : Nat) => gD (z55b_54 N) i
abbrev z55b_56 (N : NetL) : Nat := (z55b_55 N).length
abbrev z55b_57 (j : Nat) : Nat := (0 : Nat) + j
abbrev z55b_58 (N : NetL) : List Int := (z55b_53 N).t
abbrev z55b_59 (N : NetL) : List Int := rng (z55b_35 N) fun (i : Nat) => gD (z55b_58 N) i
abbrev z55b_60 (N : NetL) : Nat := (z55b_59 N).length
theorem vc55b (N : NetL) : (V55b N) = (((∀ (i : Nat), i < N.g.length → True) ∧ ∀ (i : Nat), i < N.r.length → True) ∧ bif z55b_0 N != (0 : Int) then Value.pointer none = Value.pointer none ∧ Int.ofNat (0 : Nat) =
 Int.ofNat (0 : Nat) ∧ checkL N = z55b_0 N else (z55b_3 N ∧ z55b_5 N ∧ z55b_8 N ∧ z55b_11 N ∧ z55b_12 N ∧ (z55b_7 N).le (1000 : Nat)) ∧ (z55b_13 ∧ z55b_20 N ∧ (↑(z55b_21 N) : Int) = (↑(z55b_21 N) : Int) ∧ (↑(z55b_22 N) :
 Int) = (↑(z55b_22 N) : Int) ∧ z55b_20 N ∧ (∀ (i : Nat), i < z55b_19 N → (z55b_23 N i).fr = (z55b_17 N i).fr ∧ (z55b_23 N i).to = (z55b_17 N i).to ∧ (z55b_24 N i).lo = (z55b_25 N i).lo ∧ (z55b_24 N i).hi = (z55b_25 N
 i).hi ∧ (z55b_23 N i).now = (z55b_17 N i).now) ∧ (z55b_26 N).ok ∧ (z55b_27 N).isSome = true) ∧ (z55b_13 ∧ z55b_34 N ∧ z55b_36 N ∧ z55b_38 N ∧ z55b_34 N ∧ (∀ (i : Nat), i < z55b_33 N → z55b_40 N i = z55b_41 N i ∧ z55b_42
 N i = z55b_43 N i ∧ z55b_45 N i = z55b_47 N i ∧ z55b_48 N i = z55b_49 N i ∧ z55b_50 N i = z55b_51 N i) ∧ z55b_13 ∧ z55b_52 N ∧ z55b_36 N ∧ z55b_38 N ∧ z55b_52 N ∧ (∀ (i : Nat), i < z55b_30 N → z55b_41 N i = z55b_40 N i ∧
 z55b_43 N i = z55b_42 N i ∧ z55b_47 N i = z55b_45 N i ∧ z55b_49 N i = z55b_48 N i ∧ z55b_51 N i = z55b_50 N i) ∧ ((1 : Nat) ≤ z55b_35 N ∧ z55b_33 N ≤ (1000 : Nat)) ∧ z55b_37 N + z55b_35 N ≤ z55b_33 N ∧ z55b_3 N ∧ z55b_5
 N ∧ z55b_8 N ∧ z55b_11 N ∧ z55b_56 N = z55b_37 N ∧ (0 : Nat) + z55b_37 N ≤ z55b_37 N ∧ (∀ (j : Nat), j < z55b_56 N → gD (z55b_55 N) j = gD (z55b_54 N) (z55b_57 j)) ∧ z55b_60 N = z55b_35 N ∧ (0 : Nat) + z55b_35 N ≤
 z55b_35 N ∧ (∀ (j : Nat), j < z55b_60 N → gD (z55b_59 N) j = gD (z55b_58 N) (z55b_57 j)) ∧ z55b_12 N ∧ z55b_7 N ≤ (1000 : Nat) ∧ z55b_56 N = z55b_7 N ∧ z55b_60 N = z55b_2 N) ∧ False) := by kernel_rfl
theorem net_check (N : NetL) : checkM (Net.mk N.g.length (fun (i : Nat) => gD N.g i) N.r.length (fun (i : Nat) => gD N.r i)) = checkL N := rfl
theorem truth_f (d : Desk) : rng d.nR (fun i => gD (truthM d).f i) = (truthM d).f := by
  have : d.nR = (truthM d).f.length := by simp [truthM]
  conv => lhs; rw [this]
  exact rng_getD _
theorem truth_t (d : Desk) : rng d.out (fun i => gD (truthM d).t i) = (truthM d).t := by
  have : d.out = (truthM d).t.length := by simp [truthM]
  conv => lhs; rw [this]
  exact rng_getD _
theorem truth_fl (d : Desk) : (truthM d).f.length = d.nR := by simp [truthM]
theorem truth_tl (d : Desk) : (truthM d).t.length = d.out := by simp [truthM]
theorem p55 (N : NetL) (h1 : checkL N = 0) (h2 : (settledV N).isSome = true) : V55 N := by
  obtain ⟨e1, e2⟩ := set_eq h2
  obtain ⟨l1, l2, l3⟩ := set_len h2
  have hg := good_of h1
  have hb := begun_ok hg
  have := hg.g1
  have := hg.g8
  have := hg.r14
  rw [vc55]; delta z55_0 z55_1 z55_2 z55_3 z55_4 z55_5 z55_6 z55_7 z55_8 z55_9 z55_10 z55_11 z55_12 z55_13 z55_14 z55_15 z55_16 z55_17 z55_18 z55_19 z55_20 z55_21 z55_22 z55_23 z55_24 z55_25 z55_26 z55_27 z55_28 z55_29 z55_30 z55_31 z55_32 z55_33 z55_34 z55_35 z55_36 z55_37 z55_38 z55_39 z55_40 z55_41 z55_42 z55_43 z55_44 z55_45 z55_46 z55_47 z55_48 z55_49 z55_50 z55_51 z55_52 z55_53 z55_54 z55_55 z55_56 z55_57 z55_58 z55_59 z55_60 z55_61; simp only [condP, eq_self, implies_true, and_self, true_and, and_true, true_implies, forall_const, decide_eq_true_eq, decide_eq_false_iff_not, Int.toNat_natCast, dSpan_eSpan, dReach_eReach, dWay_eWay, dStep_eStep, dFar_eFar, dInt_eInt, Nat.zero_add, Int.zero_sub, Nat.le_eq, Nat.succ_eq_add_one, Nat.add_one_le_iff, Bool.not_eq_true', Bool.not_eq_false', rng_length, dSpan_mk, dReach_mk, dWay_mk, dStep_mk, dFar_mk, rng_getD, DL.d6, DL.d7, DL.d8, net_check, h1, truth_f, truth_t, truth_fl, truth_tl, e1, Option.getD_some, bne_self_eq_false, Bool.false_eq_true, false_implies]
  rw [l1, l2, l3, e2]
  exact ⟨⟨⟨by omega, by omega⟩, by omega⟩, ⟨hb, rfl⟩, ⟨⟨by omega, by omega⟩, Nat.le_refl _, Nat.le_refl _, Nat.le_refl _, ⟨by omega, by omega⟩, by omega, rfl, rfl⟩, rfl⟩
theorem p55b (N : NetL) (h1 : checkL N ≠ 0) : V55b N := by
  have hn : (checkL N != 0) = true := by simpa using h1
  rw [vc55b]; delta z55b_0 z55b_1 z55b_2 z55b_3 z55b_4 z55b_5 z55b_6 z55b_7 z55b_8 z55b_9 z55b_10 z55b_11 z55b_12 z55b_13 z55b_14 z55b_15 z55b_16 z55b_17 z55b_18 z55b_19 z55b_20 z55b_21 z55b_22 z55b_23 z55b_24 z55b_25 z55b_26 z55b_27 z55b_28 z55b_29 z55b_30 z55b_31 z55b_32 z55b_33 z55b_34 z55b_35 z55b_36 z55b_37 z55b_38 z55b_39 z55b_40 z55b_41 z55b_42 z55b_43 z55b_44 z55b_45 z55b_46 z55b_47 z55b_48 z55b_49 z55b_50 z55b_51 z55b_52 z55b_53 z55b_54 z55b_55 z55b_56 z55b_57 z55b_58 z55b_59 z55b_60; simp only [condP, eq_self, implies_true, and_self, true_and, and_true, true_implies, forall_const, decide_eq_true_eq, decide_eq_false_iff_not, Int.toNat_natCast, dSpan_eSpan, dReach_eReach, dWay_eWay, dStep_eStep, dFar_eFar, dInt_eInt, Nat.zero_add, Int.zero_sub, Nat.le_eq, Nat.succ_eq_add_one, Nat.add_one_le_iff, Bool.not_eq_true', Bool.not_eq_false', rng_length, dSpan_mk, dReach_mk, dWay_mk, dStep_mk, dFar_mk, rng_getD, DL.d6, DL.d7, DL.d8, net_check, hn, Bool.true_eq_false, false_implies]
def s55 : Sym.Spec := C55.spec d67
def s55b : Sym.Spec := C55b.spec d67
theorem gok55 : GOk Try.prog A55.Γ := gok_cons ok44 (gok_cons ok67 (gok_cons ok68 (gok_cons ok56 (gok_cons ok70 gok_nil))))
theorem ok55 : SpecOk Try.prog 55 s55 := okC C55 (fun _ => A55) [(0, 5016), (1, 5017)] [] Try.func55 (fun _ => by kernel_rfl) (fun _ => gok55) (fun N h => p55 N h.1 h.2) (fun _ => noI rfl rfl) _
theorem ok55b : SpecOk Try.prog 55 s55b := okC C55b (fun _ => A55) [] [] Try.func55 (fun _ => by kernel_rfl) (fun _ => gok55) (fun N h => p55b N h) (fun _ => noI rfl rfl) _
theorem settleM_ok : ∀ {k : Nat} {d d' : Desk}, d.ok → settleM k d = some d' → d'.ok
  | 0, _, _, _, h => by cases h
  | k + 1, d, d', hd, h => by
    simp only [settleM] at h
    split at h
    · cases h; exact hd
    · split at h
      · cases h
      · rename_i d1 hd1
        refine settleM_ok ?_ h
        unfold settleStep at hd1
        simp only at hd1
        split at hd1
        · cases hd1
        split at hd1
        · cases hd1
        split at hd1
        · cases hd1
        rename_i hm
        cases hd1
        unfold movedM at hm
        split at hm
        · cases hm
        · split at hm
          · cases hm; exact ok_push hd _ _
          · cases hm
theorem setD_ok {N : NetL} (h1 : checkL N = 0) (h2 : (settledV N).isSome = true) : (setD N).ok := settleM_ok (begun_ok (good_of h1)) (set_eq h2).1
end Go.Bal
