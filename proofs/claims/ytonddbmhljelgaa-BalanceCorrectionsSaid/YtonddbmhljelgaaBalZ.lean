/- Balanced, Holds, Cost: the program's and the reference's. -/
import Derived.Test.YtonddbmhljelgaaBalY
import Derived.Test.YtonddbmhljelgaaBalT6
set_option linter.unusedVariables false
set_option linter.unusedSimpArgs false
namespace Go.Bal
open Go Go.Sym Go.Proofs
def balS (s : Int) (x : Int) (r : Reach) (f : Int) : Int := if r.fr = s then wr (x - f) else if r.to = s then wr (x + f) else x
def balF (s : Int) : Int → List Reach → List Int → Int
  | x, r :: l, f :: m => balF s (balS s x r f) l m
  | x, _, _ => x
def balAt (N : NetL) (T : TruthL) (s : Nat) : Int := balF s (gD T.t s) N.r T.f
def unbB (N : NetL) (T : TruthL) (s : Nat) : Bool := !decide (balAt N T s = 0)
def unbK (N : NetL) (T : TruthL) (k : Nat) : List Int := ((List.range k).filter fun s => unbB N T s).map fun (s : Nat) => (s : Int)
def unbM (N : NetL) (T : TruthL) : List Int := unbK N T N.g.length
theorem unbK_succ (N : NetL) (T : TruthL) (k : Nat) : unbK N T (k + 1) = if unbB N T k then unbK N T k ++ [(k : Int)] else unbK N T k := by
  unfold unbK
  rw [List.range_succ, List.filter_append, List.map_append]
  by_cases h : unbB N T k = true
  · simp [h]
  · simp [h]
theorem unbK_len (N : NetL) (T : TruthL) (k : Nat) : (unbK N T k).length ≤ k := by
  unfold unbK; rw [List.length_map]; exact Nat.le_trans (List.length_filter_le _ _) (by simp)
def besM (x : Int) (s : Span) : Int := if x < s.lo then wr (s.lo - x) else if s.hi < x then wr (x - s.hi) else 0
def V88 (x : Int) (s : Span) : Prop := fnVC Try.prog (ann 21 []) Try.f88 (bodyOf Try.f88) [.int x, .d (eSpan s)] (heapOf []) (.int (besM x s)) [] [] []
theorem vc88 (x : Int) (s : Span) : (V88 x s) = (bif decide (x < s.lo) then besM x s = IntKind.i64.wrap (s.lo - x) else bif decide (x > s.hi) then besM x s = IntKind.i64.wrap (x - s.hi) else besM x s = 0) := by
 kernel_rfl
def f88 : List AVal → Option (AVal × List Prop)
  | [.d (.v (.int .i64 x)), .d (.agg [.v (.int .i64 a), .v (.int .i64 b)])] => some (.int (besM x ⟨a, b⟩), [])
  | _ => none
def s88 := pureSpec f88
theorem p88 (x : Int) (s : Span) : V88 x s := by
  rw [vc88]; unfold besM
  by_cases h1 : x < s.lo <;> by_cases h2 : s.hi < x <;> simp [h1, h2]
theorem ok88 : SpecOk Try.prog 88 s88 := pureSpec_ok fun xs v p h _ => by
  unfold f88 at h; split at h
  · cases h; exact fnt (A := ann 21 []) (ren := []) (fz := []) Try.func88 (by kernel_rfl) gok_nil (p88 _ ⟨_, _⟩)
  · cases h
def A59 (a : NT) : Ann := { ann 50 [(88, s88)] with loops := fun id => if id = 3 then some [{ α := AK, dflt := default, T := fun s => ⟨[(2, .bptr 200 0), (3, .bptr 201 0), (5, .int s.acc), (6, .int s.k)], [(200, begO a.N), (201, truO a.T)]⟩, inv := fun s => s.k ≤ a.N.r.length ∧ sumFrom s.acc ((costL a.N a.T).drop s.k) = costM a.N a.T, meas := fun s => a.N.r.length - s.k, first := [(200, 1000), (201, 1016)] }] else if id = 7 then some [{ α := AK, dflt := default, T := fun s => ⟨[(2, .bptr 200 0), (3, .bptr 201 0), (5, .int s.acc), (7, .int s.k)], [(200, begO a.N), (201, truO a.T)]⟩, inv := fun s => s.k ≤ a.N.g.length ∧ sumFrom s.acc ((costL a.N a.T).drop (a.N.r.length + s.k)) = costM a.N a.T, meas := fun s => a.N.g.length - s.k }] else none }
def C59 : Ctr := { α := NT, xs := fun a => [.d (eNetL a.N), .d (eTruthL a.T)], L := fun _ => [], val := fun a => .int (costM a.N a.T), keep := fun _ => [], pre := fun a => [askM a.N a.T = 0] }
def V59 (a : NT) : Prop := fnVC Try.prog (A59 a) Try.f59 (bodyOf Try.f59) (C59.xs a) (heapOf []) (C59.val a) [] [] []
abbrev z59_0 (a : NT) : Prop := a.N.g.length = a.N.g.length ∧ (∀ (i : Nat), i < a.N.g.length → (gD a.N.g i).lo = (gD a.N.g i).lo ∧ (gD a.N.g i).hi = (gD a.N.g i).hi) ∧ a.N.r.length = a.N.r.length ∧ (∀ (i : Nat), i <
 a.N.r.length → (gD a.N.r i).fr = (gD a.N.r i).fr ∧ (gD a.N.r i).to = (gD a.N.r i).to ∧ (gD a.N.r i).sp.lo = (gD a.N.r i).sp.lo ∧ (gD a.N.r i).sp.hi = (gD a.N.r i).sp.hi) ∧ a.T.f.length = a.T.f.length ∧ (∀ (i : Nat), i <
 a.T.f.length → gD a.T.f i = gD a.T.f i) ∧ a.T.t.length = a.T.t.length ∧ ∀ (i : Nat), i < a.T.t.length → gD a.T.t i = gD a.T.t i
abbrev z59_1 (a : AK) (a1 : NT) : Prop := (↑a.k : Int) = 0 ∧ z59_0 a1
abbrev z59_2 (a : AK) (a1 : NT) : Prop := a.k ≤ a1.N.r.length ∧ sumFrom a.acc (List.drop a.k (costL a1.N a1.T)) = costM a1.N a1.T
abbrev z59_3 (a : AK) (a1 : NT) : Prop := (↑a.k : Int) < (↑a1.T.f.length : Int)
abbrev z59_4 (a : AK) : Prop := 0 ≤ (↑a.k : Int)
abbrev z59_5 (a : AK) (a1 : AK) (a2 : NT) : Prop := (↑a.k : Int) = IntKind.i64.wrap ((↑a1.k : Int) + 1) ∧ z59_0 a2
abbrev z59_6 (a : NT) (a1 : AK) : Nat := a.N.r.length - a1.k
abbrev z59_7 (a : AK) (a1 : NT) : Prop := a.k ≤ a1.N.g.length ∧ sumFrom a.acc (List.drop (a1.N.r.length + a.k) (costL a1.N a1.T)) = costM a1.N a1.T
abbrev z59_8 (a : AK) (a1 : NT) : Prop := (↑a.k : Int) < (↑a1.T.t.length : Int)
abbrev z59_9 (a : NT) (a1 : AK) : Nat := a.N.g.length - a1.k
theorem vc59 (a : NT) : (V59 a) = ((∃ (a_1 : AK), (a_1.acc = 0 ∧ z59_1 a_1 a) ∧ z59_2 a_1 a) ∧ ∀ (a_1 : AK), z59_2 a_1 a → bif decide (z59_3 a_1 a) then ((z59_4 a_1 ∧ z59_3 a_1 a) ∧ z59_4 a_1 ∧ (↑a_1.k : Int) <
 (↑a.N.r.length : Int)) ∧ ∃ (a_3 : AK), (a_3.acc = IntKind.i64.wrap (a_1.acc + besM (gD a.T.f a_1.k) (gD a.N.r a_1.k).sp) ∧ z59_5 a_3 a_1 a) ∧ z59_2 a_3 a ∧ z59_6 a a_3 < z59_6 a a_1 else (∃ (a_3 : AK), (a_3.acc = a_1.acc
 ∧ z59_1 a_3 a) ∧ z59_7 a_3 a) ∧ ∀ (a_3 : AK), z59_7 a_3 a → bif decide (z59_8 a_3 a) then ((z59_4 a_3 ∧ z59_8 a_3 a) ∧ z59_4 a_3 ∧ (↑a_3.k : Int) < (↑a.N.g.length : Int)) ∧ ∃ (a_5 : AK), (a_5.acc = IntKind.i64.wrap
 (a_3.acc + besM (gD a.T.t a_3.k) (gD a.N.g a_3.k)) ∧ z59_5 a_5 a_3 a) ∧ z59_7 a_5 a ∧ z59_9 a a_5 < z59_9 a a_3 else costM a.N a.T = a_3.acc) := by kernel_rfl
theorem askM_zero {N : NetL} {T : TruthL} (h : askM N T = 0) : checkL N = 0 ∧ (T.f.length = N.r.length ∧ T.t.length = N.g.length) ∧ (∀ i, i < T.f.length → -100000000 ≤ gD T.f i ∧ gD T.f i ≤ 100000000) ∧ ∀ i, i < T.t.length → -100000000 ≤ gD T.t i ∧ gD T.t i ≤ 100000000 := by
  unfold askM at h
  by_cases hc : checkL N = 0
  · rw [if_pos hc] at h
    split at h
    · rename_i hl
      split at h
      · rename_i hb
        simp only [Bool.and_eq_true] at hb
        exact ⟨hc, hl, fun i hi => inM_iff.1 (allB_iff.1 hb.1 i hi), fun i hi => inM_iff.1 (allB_iff.1 hb.2 i hi)⟩
      · cases h
    · cases h
  · rw [if_neg hc] at h; exact absurd h hc
theorem bes_off {x : Int} {s : Span} (hx : -100000000 ≤ x ∧ x ≤ 100000000) (hs : (-1000000 ≤ s.lo ∧ s.lo ≤ s.hi) ∧ s.hi ≤ 1000000) : besM x s = offM x s := by
  unfold besM offM
  rw [wr_id (n := s.lo - x) (by omega) (by omega), wr_id (n := x - s.hi) (by omega) (by omega)]
  by_cases h1 : x < s.lo
  · rw [if_pos h1]; omega
  · rw [if_neg h1]
    by_cases h2 : s.hi < x
    · rw [if_pos h2]; omega
    · rw [if_neg h2]; omega
theorem p59 (a : NT) (h1 : askM a.N a.T = 0) : V59 a := by
  rw [vc59]; delta z59_0 z59_1 z59_2 z59_3 z59_4 z59_5 z59_6 z59_7 z59_8 z59_9; simp only [condP, eq_self, implies_true, and_self, true_and, and_true, true_implies, forall_const, decide_eq_true_eq, decide_eq_false_iff_not, Int.toNat_natCast, dSpan_eSpan, dReach_eReach, dWay_eWay, dStep_eStep, dFar_eFar, dInt_eInt, Nat.zero_add, Int.zero_sub, Nat.le_eq, Nat.succ_eq_add_one, Nat.add_one_le_iff, Bool.not_eq_true', Bool.not_eq_false', rng_length, dSpan_mk, dReach_mk, dWay_mk, dStep_mk, dFar_mk, rng_getD, DL.d1, DL.d2, DL.d7, DL.d8]
  obtain ⟨hc, ⟨e1, e2⟩, r1, r2⟩ := askM_zero h1
  have hg := good_of hc
  have g8 := hg.g8
  have r14 := hg.r14
  have hcl := costL_len a.N a.T
  refine ⟨⟨⟨0, 0⟩, ⟨rfl, rfl⟩, Nat.zero_le _, rfl⟩, fun s ⟨q1, q2⟩ => ⟨fun hlt => ⟨⟨⟨by omega, hlt⟩, by omega, by omega⟩, ⟨⟨_, s.k + 1⟩, ⟨rfl, (wsucc (by omega)).symm⟩, ⟨by show s.k + 1 ≤ _; omega, ?_⟩, by show _ - (s.k + 1) < _; omega⟩⟩, fun hge => ⟨⟨⟨s.acc, 0⟩, ⟨rfl, rfl⟩, Nat.zero_le _, ?_⟩, fun q ⟨q3, q4⟩ => ⟨fun hlt => ⟨⟨⟨by omega, hlt⟩, by omega, by omega⟩, ⟨⟨_, q.k + 1⟩, ⟨rfl, (wsucc (by omega)).symm⟩, ⟨by show q.k + 1 ≤ _; omega, ?_⟩, by show _ - (q.k + 1) < _; omega⟩⟩, fun hge => ?_⟩⟩⟩⟩
  · have hk : s.k < a.N.r.length := by omega
    rw [drop_gD (by omega), costL_lo hk] at q2
    rw [bes_off (r1 _ (by omega)) (hg.r _ hk).1]; exact q2
  · rw [show s.k = a.N.r.length by omega] at q2; exact q2
  · have hk : q.k < a.N.g.length := by omega
    rw [drop_gD (by omega), costL_hi hk] at q4
    rw [bes_off (r2 _ (by omega)) (hg.g _ hk)]; exact q4
  · rw [List.drop_eq_nil_of_le (by omega)] at q4; exact q4.symm
theorem ok59 : SpecOk Try.prog 59 (C59.spec d78) := okC C59 A59 [] [] Try.func59 (fun _ => by kernel_rfl) (fun _ => gok_cons ok88 gok_nil) (fun a h => p59 a h) (fun _ => noI rfl rfl) _
end Go.Bal

namespace Go.Bal
open Go
def wayT (N : NetL) (T : TruthL) (i : Nat) : Way := if i < N.r.length then ⟨(gD N.r i).fr, (gD N.r i).to, (gD N.r i).sp, gD T.f i⟩ else ⟨N.g.length, (i - N.r.length : Nat), gD N.g (i - N.r.length), gD T.t (i - N.r.length)⟩
def deskT (N : NetL) (T : TruthL) : Desk := ⟨(List.range (N.r.length + N.g.length)).map (wayT N T), N.g.length, N.r.length⟩
variable {N : NetL} {T : TruthL}
theorem deskT_len : (deskT N T).all.length = N.r.length + N.g.length := by simp [deskT]
theorem deskT_get {i : Nat} (hi : i < N.r.length + N.g.length) : gD (deskT N T).all i = wayT N T i := gD_range _ hi
theorem wayT_lo {i : Nat} (hi : i < N.r.length) : wayT N T i = ⟨(gD N.r i).fr, (gD N.r i).to, (gD N.r i).sp, gD T.f i⟩ := if_pos hi
theorem wayT_hi (j : Nat) : wayT N T (N.r.length + j) = ⟨N.g.length, j, gD N.g j, gD T.t j⟩ := by
  unfold wayT; rw [if_neg (by omega), show N.r.length + j - N.r.length = j by omega]
theorem deskT_lo {i : Nat} (hi : i < N.r.length) : gD (deskT N T).all i = ⟨(gD N.r i).fr, (gD N.r i).to, (gD N.r i).sp, gD T.f i⟩ := by
  rw [deskT_get (by omega), wayT_lo hi]
theorem deskT_hi {j : Nat} (hj : j < N.g.length) : gD (deskT N T).all (N.r.length + j) = ⟨N.g.length, j, gD N.g j, gD T.t j⟩ := by
  rw [deskT_get (by omega), wayT_hi]
theorem ways_all {p : Nat → Prop} (h1 : ∀ i, i < N.r.length → p i) (h2 : ∀ j, j < N.g.length → p (N.r.length + j)) : ∀ i, i < N.r.length + N.g.length → p i := fun i hi => by
  by_cases hr : i < N.r.length
  · exact h1 i hr
  · obtain ⟨j, rfl⟩ : ∃ j, i = N.r.length + j := ⟨i - N.r.length, by omega⟩
    exact h2 j (by omega)
theorem deskT_like : Alike (begunM N) (deskT N T) := by
  refine ⟨rfl, rfl, by rw [deskT_len, begunM_len], fun i hi => ?_⟩
  rw [begunM_len] at hi
  revert i
  refine ways_all (fun i hi => ?_) (fun j hj => ?_)
  · rw [deskT_lo hi, begunM_all, gD_map _ (by rw [beg_len]; omega), beg_lo hi]; exact ⟨rfl, rfl, rfl⟩
  · rw [deskT_hi hj, begunM_all, gD_map _ (by rw [beg_len]; omega), beg_hi hj]; exact ⟨rfl, rfl, rfl⟩
theorem truth_gf {d : Desk} {i : Nat} (hi : i < d.nR) : gD (truthM d).f i = (gD d.all i).now := gD_range (fun i => (gD d.all i).now) hi
theorem truth_gt {d : Desk} {i : Nat} (hi : i < d.out) : gD (truthM d).t i = (gD d.all (d.nR + i)).now := gD_range (fun i => (gD d.all (d.nR + i)).now) hi
theorem deskT_truth {d : Desk} (h : Alike (begunM N) d) : deskT N (truthM d) = d := by
  obtain ⟨h1, h2, h3⟩ := like_sp h
  have hnR : d.nR = N.r.length := h.nR
  have hout : d.out = N.g.length := h.out
  have ha : (deskT N (truthM d)).all = d.all := by
    refine gD_ext (by rw [deskT_len, h1]) fun i hi => ?_
    rw [deskT_len] at hi
    revert i
    refine ways_all (fun i hi => ?_) (fun j hj => ?_)
    · obtain ⟨a, b, e⟩ := h2 i hi
      rw [deskT_lo hi, truth_gf (by omega), ← a, ← b, ← e]
    · obtain ⟨a, b, e⟩ := h3 j hj
      rw [deskT_hi hj, truth_gt (by omega), hnR, ← a, ← b, ← e]
  have e : deskT N (truthM d) = ⟨(deskT N (truthM d)).all, N.g.length, N.r.length⟩ := rfl
  rw [e, ha, ← hnR, ← hout]
theorem truth_deskT (h1 : T.f.length = N.r.length) (h2 : T.t.length = N.g.length) : truthM (deskT N T) = T := by
  have e1 : (truthM (deskT N T)).f = T.f := gD_ext (by simp [truthM, h1, deskT]) fun i hi => by
    have hi : i < N.r.length := by simpa [truthM, deskT] using hi
    rw [truth_gf (d := deskT N T) hi, deskT_lo hi]
  have e2 : (truthM (deskT N T)).t = T.t := gD_ext (by simp [truthM, h2, deskT]) fun i hi => by
    have hi : i < N.g.length := by simpa [truthM, deskT] using hi
    rw [truth_gt (d := deskT N T) hi, show (deskT N T).nR = N.r.length from rfl, deskT_hi hi]
  obtain ⟨f, t⟩ := T
  show TruthL.mk (truthM (deskT N ⟨f, t⟩)).f (truthM (deskT N ⟨f, t⟩)).t = _
  rw [e1, e2]
def bS (s : Int) (r : Reach) (f : Int) : Int := if r.fr = s then -f else if r.to = s then f else 0
theorem balF_sum {B : Int} (hB : 0 ≤ B ∧ B ≤ 1000000000000) (s : Int) : ∀ (l : List Reach) (m : List Int) (x K : Int), l.length = m.length → (∀ i, i < m.length → -B ≤ gD m i ∧ gD m i ≤ B) → -K ≤ x ∧ x ≤ K → K + B * l.length ≤ 1000000000000000 →
    balF s x l m = x + sumN l.length fun i => bS s (gD l i) (gD m i)
  | [], [], x, K, _, _, _, _ => by simp [balF, sumN]
  | [], _ :: _, x, K, h, _, _, _ => by simp at h
  | _ :: _, [], x, K, h, _, _, _ => by simp at h
  | r :: l, f :: m, x, K, hl, hm, hx, hK => by
    have hf : -B ≤ f ∧ f ≤ B := hm 0 (by simp)
    have e3 : (B * ((r :: l).length : Nat) : Int) = B * l.length + B := by rw [List.length_cons, Int.natCast_add, Int.mul_add]; omega
    rw [e3] at hK
    have hp : 0 ≤ B * (l.length : Int) := Int.mul_nonneg (by omega) (by omega)
    have hb : balS s x r f = x + bS s r f := by
      unfold balS bS
      rw [wr_id (n := x - f) (by omega) (by omega), wr_id (n := x + f) (by omega) (by omega)]
      split
      · omega
      · split <;> omega
    have hbb : -B ≤ bS s r f ∧ bS s r f ≤ B := by unfold bS; split <;> (try split) <;> omega
    rw [List.length_cons, sumN_head]
    simp only [balF]
    rw [hb, balF_sum hB s l m _ (K + B) (by simpa using hl) (fun i hi => hm (i + 1) (by simpa using hi)) (by omega) (by omega)]
    show x + bS s r f + _ = x + (bS s r f + _)
    rw [Int.add_assoc]; rfl
theorem exc_sumL (v : Int) : ∀ l : List Way, exc v l = sumL (excW v) l
  | [] => rfl
  | w :: l => by simp only [exc, sumL, exc_sumL v l]
theorem exc_deskT (v : Int) : exc v (deskT N T).all = sumN N.r.length (fun i => excW v (wayT N T i)) + sumN N.g.length fun j => excW v (wayT N T (N.r.length + j)) := by
  rw [exc_sumL, sumL_idx, deskT_len, sumN_split]
  congr 1
  · exact sumN_congr fun i hi => by rw [deskT_get (by omega)]
  · exact sumN_congr fun i hi => by rw [deskT_get (by omega)]
def SmallT (T : TruthL) : Prop := (∀ i, i < T.f.length → -100000000 ≤ gD T.f i ∧ gD T.f i ≤ 100000000) ∧ ∀ i, i < T.t.length → -100000000 ≤ gD T.t i ∧ gD T.t i ≤ 100000000
theorem exc_bal (hg : GoodW N) (h1 : T.f.length = N.r.length) (h2 : T.t.length = N.g.length) (hT : SmallT T) {s : Nat} (hs : s < N.g.length) : balAt N T s = exc s (deskT N T).all := by
  have h14 := hg.r14
  unfold balAt
  rw [balF_sum (B := 100000000) (by omega) s N.r T.f (gD T.t s) 100000000 h1.symm hT.1 (hT.2 s (by omega)) (by omega), exc_deskT]
  have e1 : sumN N.g.length (fun j => excW s (wayT N T (N.r.length + j))) = gD T.t s := by
    rw [sumN_congr (g := fun j => if j = s then gD T.t s else 0), sumN_one, if_pos hs]
    intro j hj
    rw [wayT_hi]
    unfold excW
    simp only
    rw [if_neg (show ¬ ((N.g.length : Nat) : Int) = (s : Int) by omega)]
    by_cases he : j = s
    · subst he; simp
    · rw [if_neg he, if_neg (by omega)]; rfl
  rw [e1, Int.add_comm]
  congr 1
  refine sumN_congr fun i hi => ?_
  rw [wayT_lo hi]
  obtain ⟨_, _, _, hne⟩ := hg.r i hi
  unfold bS excW
  simp only
  by_cases a : (gD N.r i).fr = (s : Int)
  · rw [if_pos a, if_pos a, if_neg (by omega)]; omega
  · rw [if_neg a, if_neg a]; omega
theorem deskT_lay (hg : GoodW N) : Lay (deskT N T) := by
  have h8 := hg.g8
  have h14 := hg.r14
  have hout : (deskT N T).out = N.g.length := rfl
  have en : ∀ i, i < N.r.length + N.g.length → (0 ≤ (gD (deskT N T).all i).fr ∧ (gD (deskT N T).all i).fr ≤ N.g.length) ∧ 0 ≤ (gD (deskT N T).all i).to ∧ (gD (deskT N T).all i).to ≤ N.g.length := by
    refine ways_all (fun i hi => ?_) (fun j hj => ?_)
    · rw [deskT_lo hi]; obtain ⟨_, a, b, _⟩ := hg.r i hi; simp only; omega
    · rw [deskT_hi hj]; simp only; omega
  refine ⟨⟨h8, by rw [deskT_len]; omega, by rw [deskT_len]; exact Nat.le_refl _, fun i hi => ?_⟩, fun i hi => ?_, fun i hi => ?_⟩
  · rw [deskT_len] at hi; have := en i hi; rw [hout]; omega
  · rw [deskT_len] at hi; have := en i hi; rw [hout]; omega
  · have hi : i < N.g.length := hi
    rw [show (deskT N T).nR = N.r.length from rfl, deskT_hi hi]; exact ⟨rfl, rfl⟩
theorem unb_iff (hg : GoodW N) (h1 : T.f.length = N.r.length) (h2 : T.t.length = N.g.length) (hT : SmallT T) : unbM N T = [] ↔ ∀ v : Nat, v < 10 → exc v (deskT N T).all = 0 := by
  have hL := deskT_lay (T := T) hg
  have hout : (deskT N T).out = N.g.length := rfl
  have e : unbM N T = [] ↔ ∀ s, s < N.g.length → balAt N T s = 0 := by
    unfold unbM unbK
    rw [List.map_eq_nil_iff, List.filter_eq_nil_iff]
    simp only [List.mem_range, unbB, Bool.not_eq_true', decide_eq_false_iff_not, Decidable.not_not]
  rw [e]
  constructor
  · intro h v hv
    by_cases hvs : v < N.g.length
    · rw [← exc_bal hg h1 h2 hT hvs]; exact h v hvs
    · by_cases hvo : v = N.g.length
      · subst hvo
        refine Classical.byContradiction fun hne => ?_
        obtain ⟨⟨a, ha, pa⟩, ⟨b, hb, pb⟩⟩ := hL.both hv hne
        have k : ∀ u : Nat, u < 10 → u ≠ N.g.length → exc u (deskT N T).all = 0 := fun u hu hn => by
          by_cases hus : u < N.g.length
          · rw [← exc_bal hg h1 h2 hT hus]; exact h u hus
          · exact hL.zero (by omega)
        by_cases ea : a = N.g.length
        · by_cases eb : b = N.g.length
          · subst ea; rw [eb] at pb; omega
          · rw [k b hb eb] at pb; omega
        · rw [k a ha ea] at pa; omega
      · exact hL.zero (by omega)
  · intro h s hs
    have := hg.g8
    rw [exc_bal hg h1 h2 hT hs]; exact h s (by omega)
theorem costT (hg : GoodW N) (h1 : T.f.length = N.r.length) (h2 : T.t.length = N.g.length) (hT : SmallT T) : costM N T = offL (deskT N T).all := by
  rw [← cost_desk hg (deskT_like (T := T)), truth_deskT h1 h2]
  intro i hi
  rw [deskT_len] at hi
  revert i
  refine ways_all (fun i hi => ?_) (fun j hj => ?_)
  · rw [deskT_lo hi]; have := hT.1 i (by omega); simp only; omega
  · rw [deskT_hi hj]; have := hT.2 j (by omega); simp only; omega
end Go.Bal
