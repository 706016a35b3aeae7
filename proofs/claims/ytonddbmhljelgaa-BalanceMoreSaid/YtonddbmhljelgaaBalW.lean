/- The statements' helpers of package balance. -/
import Derived.Test.YtonddbmhljelgaaBalU
set_option linter.unusedVariables false
set_option linter.unusedSimpArgs false
namespace Go.Bal
open Go Go.Sym Go.Proofs
def V50 (a b : Int) : Prop := BM Try.prog (ann 8 []) Try.f50 (AJ Try.f50) [.int a, .int b] (AE []) (.d (JU ⟨a, b⟩)) [] [] []
theorem vc50 (a : Int) (b : Int) : (V50 a b) = (a = a /\ b = b) := by kernel_rfl
def f50 : List AVal -> Option (AVal × List Prop)
 | [.d (.v (.int .i64 a)), .d (.v (.int .i64 b))] => some (.d (JU ⟨a, b⟩), [])
 | _ => none
def s50 := FF f50
theorem Yd : AL Try.prog 50 s50 := DO λ xs v p h _ => by
 unfold f50 at h; split at h
 ·cases h; exact RX (A := ann 8 []) (ren := []) (fz := []) Try.func50 (by kernel_rfl) AH (by show V50 _ _; rw [vc50]; exact ⟨rfl, rfl⟩)
 ·cases h
def IS (lo hi : Int) : NetL := ⟨[⟨100, 120⟩, ⟨0, 10⟩, ⟨-200, -100⟩], [⟨0, 1, ⟨90, 115⟩⟩, ⟨1, 2, ⟨lo, hi⟩⟩]⟩
def A49 := ann 17 [(50, s50)]
def C49 : Ctr := { α := Span, xs := λ s => [.int s.lo, .int s.hi], L := λ _ => [], val := λ s => .d (EZ (IS s.lo s.hi)), keep := λ _ => [] }
def d49 : List AVal -> Heap -> Option (Span × List (Nat × Nat) × List Nat)
 | [.d (.v (.int _ a)), .d (.v (.int _ b))], _ => some (⟨a, b⟩, [], [])
 | _, _ => none
def V49 (s : Span) : Prop := BM Try.prog A49 Try.f49 (AJ Try.f49) (C49.xs s) (AE []) (C49.val s) [] [] [2048, 2160]
theorem vc49 (s : Span) : (V49 s) = ((IS s.lo s.hi).g.length = 3 /\ 3 <= 3 /\ (∀ (j : Nat), j < (IS s.lo s.hi).g.length -> ((gD (IS s.lo s.hi).g j).lo = bif decide (0 + j = 0) then 100 else bif decide (0 + j - 1
 = 0) then 0 else -200) /\ (gD (IS s.lo s.hi).g j).hi = bif decide (0 + j = 0) then 120 else bif decide (0 + j - 1 = 0) then 10 else -100) /\ (IS s.lo s.hi).r.length = 2 /\ 2 <= 2 /\ ∀ (j : Nat), j < (IS s.lo
 s.hi).r.length -> ((gD (IS s.lo s.hi).r j).fr = bif decide (0 + j = 0) then 0 else 1) /\ ((gD (IS s.lo s.hi).r j).to = bif decide (0 + j = 0) then 1 else 2) /\ ((gD (IS s.lo s.hi).r j).sp.lo = bif decide (0 + j
 = 0) then 90 else s.lo) /\ (gD (IS s.lo s.hi).r j).sp.hi = bif decide (0 + j = 0) then 115 else s.hi) := by kernel_rfl
theorem p49 (s : Span) : V49 s := by
 rw [vc49]; simp only [CC, eq_self, implies_true, forall_const]
 refine ⟨rfl, by decide, λ j hj => ?_, rfl, by decide, λ j hj => ?_⟩
 ·have hj : j < 3 := hj
  match j, hj with
  | 0, _ => exact ⟨rfl, rfl⟩
  | 1, _ => exact ⟨rfl, rfl⟩
  | 2, _ => exact ⟨rfl, rfl⟩
 ·have hj : j < 2 := hj
  match j, hj with
  | 0, _ => exact ⟨rfl, rfl, rfl, rfl⟩
  | 1, _ => exact ⟨rfl, rfl, rfl, rfl⟩
theorem ok49 : AL Try.prog 49 (C49.spec d49) := JC C49 (λ _ => A49) [] [2048, 2160] Try.func49 (λ _ => by kernel_rfl) (λ _ => AB Yd AH) (λ s _ => p49 s) (λ _ => KF rfl rfl) _
def A15 := ann 10 [(51, C51.spec Yy), (52, C52.spec Zd)]
def C15 : Ctr := { α := NetL, xs := λ N => [.d (EZ N)], L := λ _ => [], val := λ N => .d (EZ N), keep := λ _ => [], pre := λ N => [N.g.length <= 1000000, N.r.length <= 1000000] }
def V15 (N : NetL) : Prop := BM Try.prog A15 Try.f15 (AJ Try.f15) (C15.xs N) (AE []) (C15.val N) [] [] []
theorem vc15 (N : NetL) : (V15 N) = (((AC N.g.length λ (i : Nat) => gD N.g i).length = N.g.length /\ (∀ (i : Nat), i < (AC N.g.length λ (i : Nat) => gD N.g i).length -> (gD (AC N.g.length λ (i : Nat) => gD N.g i)
 i).lo = (gD N.g i).lo /\ (gD (AC N.g.length λ (i : Nat) => gD N.g i) i).hi = (gD N.g i).hi) /\ (AC N.g.length λ (i : Nat) => gD N.g i).length <= 1000000 /\ (AC N.r.length λ (i : Nat) => gD N.r i).length = N.r.length
 /\ (∀ (i : Nat), i < (AC N.r.length λ (i : Nat) => gD N.r i).length -> (gD (AC N.r.length λ (i : Nat) => gD N.r i) i).fr = (gD N.r i).fr /\ (gD (AC N.r.length λ (i : Nat) => gD N.r i) i).to = (gD N.r i).to /\ (gD
 (AC N.r.length λ (i : Nat) => gD N.r i) i).sp.lo = (gD N.r i).sp.lo /\ (gD (AC N.r.length λ (i : Nat) => gD N.r i) i).sp.hi = (gD N.r i).sp.hi) /\ (AC N.r.length λ (i : Nat) => gD N.r i).length.le 1000000) /\
 N.g.length = (AC N.g.length λ (i : Nat) => gD N.g i).length /\ (∀ (i : Nat), i < N.g.length -> (gD N.g i).lo = (gD (AC N.g.length λ (i : Nat) => gD N.g i) i).lo /\ (gD N.g i).hi = (gD (AC N.g.length λ (i : Nat) =>
 gD N.g i) i).hi) /\ N.r.length = (AC N.r.length λ (i : Nat) => gD N.r i).length /\ ∀ (i : Nat), i < N.r.length -> (gD N.r i).fr = (gD (AC N.r.length λ (i : Nat) => gD N.r i) i).fr /\ (gD N.r i).to = (gD (AC N.r.length
 λ (i : Nat) => gD N.r i) i).to /\ (gD N.r i).sp.lo = (gD (AC N.r.length λ (i : Nat) => gD N.r i) i).sp.lo /\ (gD N.r i).sp.hi = (gD (AC N.r.length λ (i : Nat) => gD N.r i) i).sp.hi) := by kernel_rfl
theorem p15 (N : NetL) (h1 : N.g.length <= 1000000) (h2 : N.r.length <= 1000000) : V15 N := by
 rw [vc15]; simp only [CC, eq_self, implies_true, forall_const]
 exact ⟨h1, h2⟩
theorem Uw : AL Try.prog 15 (C15.spec XP) := JC C15 (λ _ => A15) [] [] Try.func15 (λ _ => by kernel_rfl) (λ _ => AB Ui (AB ok52 AH)) (λ N h => p15 N h.1 h.2) (λ _ => KF rfl rfl) _
end Go.Bal

namespace Go.Bal
open Go Go.Sym Go.Proofs
theorem Gq {N : NetL} (h : 1 <= N.g.length /\ N.g.length <= 8 /\ N.r.length <= 14) : AD N = if HN (λ i => CX (gD N.g i)) N.g.length then GE (λ i => TV (YP N) (gD N.r i)) N.r.length 0 else 90 := by
 unfold AD EM
 rw [if_neg]
 ·rfl
 have hg : ((YP N).nG : Int) = N.g.length := rfl
 have hr : (YP N).nR = N.r.length := rfl
 rw [hg, hr]
 simp only [Bool.or_eq_true, Bool.not_eq_true', decide_eq_true_eq, GD, Bool.and_eq_false_iff, decide_eq_false_iff_not]
 omega
def XO (N : NetL) (T : TruthL) : Int := if AD N = 0 then if T.f.length = N.r.length /\ T.t.length = N.g.length then if HN (λ i => GD (gD T.f i) (-100000000) 100000000) T.f.length && HN (λ i => GD (gD T.t i) (-100000000) 100000000) T.t.length then 0 else 4 else 2 else AD N
end Go.Bal

namespace Go.Bal
open Go Go.Sym Go.Proofs
def Sw (s : Int) (x : Int) (r : Reach) (f : Int) : Int := if r.fr = s then wr (x - f) else if r.to = s then wr (x + f) else x
def Oo (s : Int) : Int -> List Reach -> List Int -> Int
 | x, r :: l, f :: m => Oo s (Sw s x r f) l m
 | x, _, _ => x
def Cq (N : NetL) (T : TruthL) (s : Nat) : Int := Oo s (gD T.t s) N.r T.f
def Su (N : NetL) (T : TruthL) (s : Nat) : Bool := !decide (Cq N T s = 0)
def Un (N : NetL) (T : TruthL) (k : Nat) : List Int := ((List.range k).filter λ s => Su N T s).map λ (s : Nat) => (s : Int)
def XU (N : NetL) (T : TruthL) : List Int := Un N T N.g.length
theorem Lh {N : NetL} {T : TruthL} (h : XO N T = 0) : AD N = 0 /\ (T.f.length = N.r.length /\ T.t.length = N.g.length) /\ (∀ i, i < T.f.length -> -100000000 <= gD T.f i /\ gD T.f i <= 100000000) /\ ∀ i, i < T.t.length -> -100000000 <= gD T.t i /\ gD T.t i <= 100000000 := by
 unfold XO at h
 by_cases hc : AD N = 0
 ·rw [if_pos hc] at h
  split at h
  ·rename_i hl
   split at h
   ·rename_i hb
    simp only [Bool.and_eq_true] at hb
    exact ⟨hc, hl, λ i hi => IH.1 (JQ.1 hb.1 i hi), λ i hi => IH.1 (JQ.1 hb.2 i hi)⟩
   ·cases h
  ·cases h
 ·rw [if_neg hc] at h; exact absurd h hc
end Go.Bal
