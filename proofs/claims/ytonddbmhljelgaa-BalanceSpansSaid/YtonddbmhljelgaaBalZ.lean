/- Balanced, Holds, Cost: the program's and the reference's. -/
import Derived.Test.YtonddbmhljelgaaBalY
import Derived.Test.YtonddbmhljelgaaBalT8
set_option linter.unusedVariables false
set_option linter.unusedSimpArgs false
namespace Go.Bal
open Go Go.Sym Go.Proofs
def TI (s : Int) (x : Int) (r : Reach) (f : Int) : Int := if r.fr = s then wr (x - f) else if r.to = s then wr (x + f) else x
def Bk (s : Int) : Int -> List Reach -> List Int -> Int
 | x, r :: l, f :: m => Bk s (TI s x r f) l m
 | x, _, _ => x
def ZS (N : NetL) (T : TruthL) (s : Nat) : Int := Bk s (gD T.t s) N.r T.f
def NY (N : NetL) (T : TruthL) (s : Nat) : Bool := !decide (ZS N T s = 0)
def EG (N : NetL) (T : TruthL) (k : Nat) : List Int := ((List.range k).filter λ s => NY N T s).map λ (s : Nat) => (s : Int)
def QC (N : NetL) (T : TruthL) : List Int := EG N T N.g.length
theorem IM (N : NetL) (T : TruthL) (k : Nat) : EG N T (k + 1) = if NY N T k then EG N T k ++ [(k : Int)] else EG N T k := by
 unfold EG
 rw [List.range_succ, List.filter_append, List.map_append]
 by_cases h : NY N T k = true
 ·simp [h]
 ·simp [h]
theorem Kg (N : NetL) (T : TruthL) (k : Nat) : (EG N T k).length <= k := by
 unfold EG; rw [List.length_map]; exact Nat.le_trans (List.length_filter_le _ _) (by simp)
def Fh (x : Int) (s : Span) : Int := if x < s.lo then wr (s.lo - x) else if s.hi < x then wr (x - s.hi) else 0
def V88 (x : Int) (s : Span) : Prop := BC Try.prog (ann 21 []) Try.f88 (AH Try.f88) [.int x, .d (EU s)] (AE []) (.int (Fh x s)) [] [] []
theorem vc88 (x : Int) (s : Span) : (V88 x s) = (bif decide (x < s.lo) then Fh x s = IntKind.i64.wrap (s.lo - x) else bif decide (x > s.hi) then Fh x s = IntKind.i64.wrap (x - s.hi) else Fh x s = 0) := by
 kernel_rfl
def f88 : List AVal -> Option (AVal × List Prop)
 | [.d (.v (.int .i64 x)), .d (.agg [.v (.int .i64 a), .v (.int .i64 b)])] => some (.int (Fh x ⟨a, b⟩), [])
 | _ => none
def s88 := DX f88
theorem p88 (x : Int) (s : Span) : V88 x s := by
 rw [vc88]; unfold Fh
 by_cases h1 : x < s.lo <;> by_cases h2 : s.hi < x <;> simp [h1, h2]
theorem ok88 : AI Try.prog 88 s88 := CE λ xs v p h _ => by
 unfold f88 at h; split at h
 ·cases h; exact NE (A := ann 21 []) (ren := []) (fz := []) Try.func88 (by kernel_rfl) AF (p88 _ ⟨_, _⟩)
 ·cases h
def A59 (a : NT) : Ann := { ann 50 [(88, s88)] with loops := λ id => if id = 3 then some [{ α := AK, dflt := default, T := λ s => ⟨[(2, .bptr 200 0), (3, .bptr 201 0), (5, .int s.acc), (6, .int s.k)], [(200, EZ a.N), (201, Tt a.T)]⟩, inv := λ s => s.k <= a.N.r.length /\ EC s.acc ((FJ a.N a.T).drop s.k) = EW a.N a.T, meas := λ s => a.N.r.length - s.k, first := [(200, 1000), (201, 1016)] }] else if id = 7 then some [{ α := AK, dflt := default, T := λ s => ⟨[(2, .bptr 200 0), (3, .bptr 201 0), (5, .int s.acc), (7, .int s.k)], [(200, EZ a.N), (201, Tt a.T)]⟩, inv := λ s => s.k <= a.N.g.length /\ EC s.acc ((FJ a.N a.T).drop (a.N.r.length + s.k)) = EW a.N a.T, meas := λ s => a.N.g.length - s.k }] else none }
def C59 : Ctr := { α := NT, xs := λ a => [.d (EI a.N), .d (EY a.T)], L := λ _ => [], val := λ a => .int (EW a.N a.T), keep := λ _ => [], pre := λ a => [EK a.N a.T = 0] }
def V59 (a : NT) : Prop := BC Try.prog (A59 a) Try.f59 (AH Try.f59) (C59.xs a) (AE []) (C59.val a) [] [] []
abbrev z59_0 (a : NT) : Prop := a.N.g.length = a.N.g.length /\ (∀ (i : Nat), i < a.N.g.length -> (gD a.N.g i).lo = (gD a.N.g i).lo /\ (gD a.N.g i).hi = (gD a.N.g i).hi) /\ a.N.r.length = a.N.r.length /\ (∀ (i : Nat), i <
 a.N.r.length -> (gD a.N.r i).fr = (gD a.N.r i).fr /\ (gD a.N.r i).to = (gD a.N.r i).to /\ (gD a.N.r i).sp.lo = (gD a.N.r i).sp.lo /\ (gD a.N.r i).sp.hi = (gD a.N.r i).sp.hi) /\ a.T.f.length = a.T.f.length /\ (∀ (i : Nat), i <
 a.T.f.length -> gD a.T.f i = gD a.T.f i) /\ a.T.t.length = a.T.t.length /\ ∀ (i : Nat), i < a.T.t.length -> gD a.T.t i = gD a.T.t i
abbrev z59_1 (a : AK) (a1 : NT) : Prop := (↑a.k : Int) = 0 /\ z59_0 a1
abbrev z59_2 (a : AK) (a1 : NT) : Prop := a.k <= a1.N.r.length /\ EC a.acc (List.drop a.k (FJ a1.N a1.T)) = EW a1.N a1.T
abbrev z59_3 (a : AK) (a1 : NT) : Prop := (↑a.k : Int) < (↑a1.T.f.length : Int)
abbrev z59_4 (a : AK) : Prop := 0 <= (↑a.k : Int)
abbrev z59_5 (a : AK) (a1 : AK) (a2 : NT) : Prop := (↑a.k : Int) = IntKind.i64.wrap ((↑a1.k : Int) + 1) /\ z59_0 a2
abbrev z59_6 (a : NT) (a1 : AK) : Nat := a.N.r.length - a1.k
abbrev z59_7 (a : AK) (a1 : NT) : Prop := a.k <= a1.N.g.length /\ EC a.acc (List.drop (a1.N.r.length + a.k) (FJ a1.N a1.T)) = EW a1.N a1.T
abbrev z59_8 (a : AK) (a1 : NT) : Prop := (↑a.k : Int) < (↑a1.T.t.length : Int)
abbrev z59_9 (a : NT) (a1 : AK) : Nat := a.N.g.length - a1.k
theorem vc59 (a : NT) : (V59 a) = ((∃ (a_1 : AK), (a_1.acc = 0 /\ z59_1 a_1 a) /\ z59_2 a_1 a) /\ ∀ (a_1 : AK), z59_2 a_1 a -> bif decide (z59_3 a_1 a) then ((z59_4 a_1 /\ z59_3 a_1 a) /\ z59_4 a_1 /\ (↑a_1.k : Int) <
 (↑a.N.r.length : Int)) /\ ∃ (a_3 : AK), (a_3.acc = IntKind.i64.wrap (a_1.acc + Fh (gD a.T.f a_1.k) (gD a.N.r a_1.k).sp) /\ z59_5 a_3 a_1 a) /\ z59_2 a_3 a /\ z59_6 a a_3 < z59_6 a a_1 else (∃ (a_3 : AK), (a_3.acc = a_1.acc
 /\ z59_1 a_3 a) /\ z59_7 a_3 a) /\ ∀ (a_3 : AK), z59_7 a_3 a -> bif decide (z59_8 a_3 a) then ((z59_4 a_3 /\ z59_8 a_3 a) /\ z59_4 a_3 /\ (↑a_3.k : Int) < (↑a.N.g.length : Int)) /\ ∃ (a_5 : AK), (a_5.acc = IntKind.i64.wrap
 (a_3.acc + Fh (gD a.T.t a_3.k) (gD a.N.g a_3.k)) /\ z59_5 a_5 a_3 a) /\ z59_7 a_5 a /\ z59_9 a a_5 < z59_9 a a_3 else EW a.N a.T = a_3.acc) := by kernel_rfl
theorem YT {N : NetL} {T : TruthL} (h : EK N T = 0) : AC N = 0 /\ (T.f.length = N.r.length /\ T.t.length = N.g.length) /\ (∀ i, i < T.f.length -> -100000000 <= gD T.f i /\ gD T.f i <= 100000000) /\ ∀ i, i < T.t.length -> -100000000 <= gD T.t i /\ gD T.t i <= 100000000 := by
 unfold EK at h
 by_cases hc : AC N = 0
 ·rw [if_pos hc] at h
  split at h
  ·rename_i hl
   split at h
   ·rename_i hb
    simp only [Bool.and_eq_true] at hb
    exact ⟨hc, hl, λ i hi => BI.1 (ET.1 hb.1 i hi), λ i hi => BI.1 (ET.1 hb.2 i hi)⟩
   ·cases h
  ·cases h
 ·rw [if_neg hc] at h; exact absurd h hc
theorem Px {x : Int} {s : Span} (hx : -100000000 <= x /\ x <= 100000000) (hs : (-1000000 <= s.lo /\ s.lo <= s.hi) /\ s.hi <= 1000000) : Fh x s = QZ x s := by
 unfold Fh QZ
 rw [CF (n := s.lo - x) (by omega) (by omega), CF (n := x - s.hi) (by omega) (by omega)]
 by_cases h1 : x < s.lo
 ·rw [if_pos h1]; omega
 ·rw [if_neg h1]
  by_cases h2 : s.hi < x
  ·rw [if_pos h2]; omega
  ·rw [if_neg h2]; omega
theorem p59 (a : NT) (h1 : EK a.N a.T = 0) : V59 a := by
 rw [vc59]; delta z59_0 z59_1 z59_2 z59_3 z59_4 z59_5 z59_6 z59_7 z59_8 z59_9; simp only [CC, eq_self, implies_true, forall_const, DL.d1, DL.d2, DL.d7, DL.d8]
 obtain ⟨hc, ⟨e1, e2⟩, r1, r2⟩ := YT h1
 have hg := AS hc
 have g8 := hg.g8
 have r14 := hg.r14
 have hcl := Fr a.N a.T
 refine ⟨⟨⟨0, 0⟩, ⟨rfl, rfl⟩, Nat.zero_le _, rfl⟩, λ s ⟨q1, q2⟩ => ⟨λ hlt => ⟨⟨⟨by omega, hlt⟩, by omega, by omega⟩, ⟨⟨_, s.k + 1⟩, ⟨rfl, (AN (by omega)).symm⟩, ⟨by show s.k + 1 <= _; omega, ?_⟩, by show _ - (s.k + 1) < _; omega⟩⟩, λ hge => ⟨⟨⟨s.acc, 0⟩, ⟨rfl, rfl⟩, Nat.zero_le _, ?_⟩, λ q ⟨q3, q4⟩ => ⟨λ hlt => ⟨⟨⟨by omega, hlt⟩, by omega, by omega⟩, ⟨⟨_, q.k + 1⟩, ⟨rfl, (AN (by omega)).symm⟩, ⟨by show q.k + 1 <= _; omega, ?_⟩, by show _ - (q.k + 1) < _; omega⟩⟩, λ hge => ?_⟩⟩⟩⟩
 ·have hk : s.k < a.N.r.length := by omega
  rw [ED (by omega), Dc hk] at q2
  rw [Px (r1 _ (by omega)) (hg.r _ hk).1]; exact q2
 ·rw [show s.k = a.N.r.length by omega] at q2; exact q2
 ·have hk : q.k < a.N.g.length := by omega
  rw [ED (by omega), Ej hk] at q4
  rw [Px (r2 _ (by omega)) (hg.g _ hk)]; exact q4
 ·rw [List.drop_eq_nil_of_le (by omega)] at q4; exact q4.symm
theorem ok59 : AI Try.prog 59 (C59.spec Yh) := HQ C59 A59 [] [] Try.func59 (λ _ => by kernel_rfl) (λ _ => AA ok88 AF) (λ a h => p59 a h) (λ _ => IL rfl rfl) _
end Go.Bal

namespace Go.Bal
open Go
def Kr (N : NetL) (T : TruthL) (i : Nat) : Way := if i < N.r.length then ⟨(gD N.r i).fr, (gD N.r i).to, (gD N.r i).sp, gD T.f i⟩ else ⟨N.g.length, (i - N.r.length : Nat), gD N.g (i - N.r.length), gD T.t (i - N.r.length)⟩
def AP (N : NetL) (T : TruthL) : Desk := ⟨(List.range (N.r.length + N.g.length)).map (Kr N T), N.g.length, N.r.length⟩
variable {N : NetL} {T : TruthL}
theorem BT : (AP N T).all.length = N.r.length + N.g.length := by simp [AP]
theorem TB {i : Nat} (hi : i < N.r.length + N.g.length) : gD (AP N T).all i = Kr N T i := BZ _ hi
theorem Qg {i : Nat} (hi : i < N.r.length) : Kr N T i = ⟨(gD N.r i).fr, (gD N.r i).to, (gD N.r i).sp, gD T.f i⟩ := if_pos hi
theorem Re (j : Nat) : Kr N T (N.r.length + j) = ⟨N.g.length, j, gD N.g j, gD T.t j⟩ := by
 unfold Kr; rw [if_neg (by omega), show N.r.length + j - N.r.length = j by omega]
theorem EL {i : Nat} (hi : i < N.r.length) : gD (AP N T).all i = ⟨(gD N.r i).fr, (gD N.r i).to, (gD N.r i).sp, gD T.f i⟩ := by
 rw [TB (by omega), Qg hi]
theorem EX {j : Nat} (hj : j < N.g.length) : gD (AP N T).all (N.r.length + j) = ⟨N.g.length, j, gD N.g j, gD T.t j⟩ := by
 rw [TB (by omega), Re]
theorem FK {p : Nat -> Prop} (h1 : ∀ i, i < N.r.length -> p i) (h2 : ∀ j, j < N.g.length -> p (N.r.length + j)) : ∀ i, i < N.r.length + N.g.length -> p i := λ i hi => by
 by_cases hr : i < N.r.length
 ·exact h1 i hr
 ·obtain ⟨j, rfl⟩ : ∃ j, i = N.r.length + j := ⟨i - N.r.length, by omega⟩
  exact h2 j (by omega)
theorem DJ : Alike (AJ N) (AP N T) := by
 refine ⟨rfl, rfl, by rw [BT, BJ], λ i hi => ?_⟩
 rw [BJ] at hi
 revert i
 refine FK (λ i hi => ?_) (λ j hj => ?_)
 ·rw [EL hi, DK, JB _ (by rw [EM]; omega), NO hi]; exact ⟨rfl, rfl, rfl⟩
 ·rw [EX hj, DK, JB _ (by rw [EM]; omega), NS hj]; exact ⟨rfl, rfl, rfl⟩
theorem RE {d : Desk} {i : Nat} (hi : i < d.nR) : gD (AL d).f i = (gD d.all i).now := BZ (λ i => (gD d.all i).now) hi
theorem WY {d : Desk} {i : Nat} (hi : i < d.out) : gD (AL d).t i = (gD d.all (d.nR + i)).now := BZ (λ i => (gD d.all (d.nR + i)).now) hi
theorem GV {d : Desk} (h : Alike (AJ N) d) : AP N (AL d) = d := by
 obtain ⟨h1, h2, h3⟩ := EN h
 have hnR : d.nR = N.r.length := h.nR
 have hout : d.out = N.g.length := h.out
 have ha : (AP N (AL d)).all = d.all := by
  refine JX (by rw [BT, h1]) λ i hi => ?_
  rw [BT] at hi
  revert i
  refine FK (λ i hi => ?_) (λ j hj => ?_)
  ·obtain ⟨a, b, e⟩ := h2 i hi
   rw [EL hi, RE (by omega), <- a, <- b, <- e]
  ·obtain ⟨a, b, e⟩ := h3 j hj
   rw [EX hj, WY (by omega), hnR, <- a, <- b, <- e]
 have e : AP N (AL d) = ⟨(AP N (AL d)).all, N.g.length, N.r.length⟩ := rfl
 rw [e, ha, <- hnR, <- hout]
theorem ZP (h1 : T.f.length = N.r.length) (h2 : T.t.length = N.g.length) : AL (AP N T) = T := by
 have e1 : (AL (AP N T)).f = T.f := JX (by simp [AL, h1, AP]) λ i hi => by
  have hi : i < N.r.length := by simpa [AL, AP] using hi
  rw [RE (d := AP N T) hi, EL hi]
 have e2 : (AL (AP N T)).t = T.t := JX (by simp [AL, h2, AP]) λ i hi => by
  have hi : i < N.g.length := by simpa [AL, AP] using hi
  rw [WY (d := AP N T) hi, show (AP N T).nR = N.r.length from rfl, EX hi]
 obtain ⟨f, t⟩ := T
 show TruthL.mk (AL (AP N ⟨f, t⟩)).f (AL (AP N ⟨f, t⟩)).t = _
 rw [e1, e2]
def bS (s : Int) (r : Reach) (f : Int) : Int := if r.fr = s then -f else if r.to = s then f else 0
theorem Cw {B : Int} (hB : 0 <= B /\ B <= 1000000000000) (s : Int) : ∀ (l : List Reach) (m : List Int) (x K : Int), l.length = m.length -> (∀ i, i < m.length -> -B <= gD m i /\ gD m i <= B) -> -K <= x /\ x <= K -> K + B * l.length <= 1000000000000000 ->
  Bk s x l m = x + BM l.length λ i => bS s (gD l i) (gD m i)
 | [], [], x, K, _, _, _, _ => by simp [Bk, BM]
 | [], _ :: _, x, K, h, _, _, _ => by simp at h
 | _ :: _, [], x, K, h, _, _, _ => by simp at h
 | r :: l, f :: m, x, K, hl, hm, hx, hK => by
  have hf : -B <= f /\ f <= B := hm 0 (by simp)
  have e3 : (B * ((r :: l).length : Nat) : Int) = B * l.length + B := by rw [List.length_cons, Int.natCast_add, Int.mul_add]; omega
  rw [e3] at hK
  have hp : 0 <= B * (l.length : Int) := Int.mul_nonneg (by omega) (by omega)
  have hb : TI s x r f = x + bS s r f := by
   unfold TI bS
   rw [CF (n := x - f) (by omega) (by omega), CF (n := x + f) (by omega) (by omega)]
   split
   ·omega
   ·split <;> omega
  have hbb : -B <= bS s r f /\ bS s r f <= B := by unfold bS; split <;> (try split) <;> omega
  rw [List.length_cons, OL]
  simp only [Bk]
  rw [hb, Cw hB s l m _ (K + B) (by simpa using hl) (λ i hi => hm (i + 1) (by simpa using hi)) (by omega) (by omega)]
  show x + bS s r f + _ = x + (bS s r f + _)
  rw [Int.add_assoc]; rfl
theorem Kz (v : Int) : ∀ l : List Way, EF v l = EV (LU v) l
 | [] => rfl
 | w :: l => by simp only [EF, EV, Kz v l]
theorem Sj (v : Int) : EF v (AP N T).all = BM N.r.length (λ i => LU v (Kr N T i)) + BM N.g.length λ j => LU v (Kr N T (N.r.length + j)) := by
 rw [Kz, KT, BT, JS]
 congr 1
 ·exact AX λ i hi => by rw [TB (by omega)]
 ·exact AX λ i hi => by rw [TB (by omega)]
def MR (T : TruthL) : Prop := (∀ i, i < T.f.length -> -100000000 <= gD T.f i /\ gD T.f i <= 100000000) /\ ∀ i, i < T.t.length -> -100000000 <= gD T.t i /\ gD T.t i <= 100000000
theorem Hu (hg : GoodW N) (h1 : T.f.length = N.r.length) (h2 : T.t.length = N.g.length) (hT : MR T) {s : Nat} (hs : s < N.g.length) : ZS N T s = EF s (AP N T).all := by
 have h14 := hg.r14
 unfold ZS
 rw [Cw (B := 100000000) (by omega) s N.r T.f (gD T.t s) 100000000 h1.symm hT.1 (hT.2 s (by omega)) (by omega), Sj]
 have e1 : BM N.g.length (λ j => LU s (Kr N T (N.r.length + j))) = gD T.t s := by
  rw [AX (g := λ j => if j = s then gD T.t s else 0), FS, if_pos hs]
  intro j hj
  rw [Re]
  unfold LU
  simp only
  rw [if_neg (show ¬ ((N.g.length : Nat) : Int) = (s : Int) by omega)]
  by_cases he : j = s
  ·subst he; simp
  ·rw [if_neg he, if_neg (by omega)]; rfl
 rw [e1, Int.add_comm]
 congr 1
 refine AX λ i hi => ?_
 rw [Qg hi]
 obtain ⟨_, _, _, hne⟩ := hg.r i hi
 unfold bS LU
 simp only
 by_cases a : (gD N.r i).fr = (s : Int)
 ·rw [if_pos a, if_pos a, if_neg (by omega)]; omega
 ·rw [if_neg a, if_neg a]; omega
theorem OU (hg : GoodW N) : Lay (AP N T) := by
 have h8 := hg.g8
 have h14 := hg.r14
 have hout : (AP N T).out = N.g.length := rfl
 have en : ∀ i, i < N.r.length + N.g.length -> (0 <= (gD (AP N T).all i).fr /\ (gD (AP N T).all i).fr <= N.g.length) /\ 0 <= (gD (AP N T).all i).to /\ (gD (AP N T).all i).to <= N.g.length := by
  refine FK (λ i hi => ?_) (λ j hj => ?_)
  ·rw [EL hi]; obtain ⟨_, a, b, _⟩ := hg.r i hi; simp only; omega
  ·rw [EX hj]; simp only; omega
 refine ⟨⟨h8, by rw [BT]; omega, by rw [BT]; exact Nat.le_refl _, λ i hi => ?_⟩, λ i hi => ?_, λ i hi => ?_⟩
 ·rw [BT] at hi; have := en i hi; rw [hout]; omega
 ·rw [BT] at hi; have := en i hi; rw [hout]; omega
 ·have hi : i < N.g.length := hi
  rw [show (AP N T).nR = N.r.length from rfl, EX hi]; exact ⟨rfl, rfl⟩
theorem TF (hg : GoodW N) (h1 : T.f.length = N.r.length) (h2 : T.t.length = N.g.length) (hT : MR T) : QC N T = [] ↔ ∀ v : Nat, v < 10 -> EF v (AP N T).all = 0 := by
 have hL := OU (T := T) hg
 have hout : (AP N T).out = N.g.length := rfl
 have e : QC N T = [] ↔ ∀ s, s < N.g.length -> ZS N T s = 0 := by
  unfold QC EG
  rw [List.map_eq_nil_iff, List.filter_eq_nil_iff]
  simp only [List.mem_range, NY, Bool.not_eq_true', decide_eq_false_iff_not, Decidable.not_not]
 rw [e]
 constructor
 ·intro h v hv
  by_cases hvs : v < N.g.length
  ·rw [<- Hu hg h1 h2 hT hvs]; exact h v hvs
  ·by_cases hvo : v = N.g.length
   ·subst hvo
    refine Classical.byContradiction λ hne => ?_
    obtain ⟨⟨a, ha, pa⟩, ⟨b, hb, pb⟩⟩ := hL.both hv hne
    have k : ∀ u : Nat, u < 10 -> u ≠ N.g.length -> EF u (AP N T).all = 0 := λ u hu hn => by
     by_cases hus : u < N.g.length
     ·rw [<- Hu hg h1 h2 hT hus]; exact h u hus
     ·exact hL.zero (by omega)
    by_cases ea : a = N.g.length
    ·by_cases eb : b = N.g.length
     ·subst ea; rw [eb] at pb; omega
     ·rw [k b hb eb] at pb; omega
    ·rw [k a ha ea] at pa; omega
   ·exact hL.zero (by omega)
 ·intro h s hs
  have := hg.g8
  rw [Hu hg h1 h2 hT hs]; exact h s (by omega)
theorem Jy (hg : GoodW N) (h1 : T.f.length = N.r.length) (h2 : T.t.length = N.g.length) (hT : MR T) : EW N T = JK (AP N T).all := by
 rw [<- YF hg (DJ (T := T)), ZP h1 h2]
 intro i hi
 rw [BT] at hi
 revert i
 refine FK (λ i hi => ?_) (λ j hj => ?_)
 ·rw [EL hi]; have := hT.1 i (by omega); simp only; omega
 ·rw [EX hj]; have := hT.2 j (by omega); simp only; omega
end Go.Bal
