/- Package balance: truths as nets at work. -/
import Derived.Test.YtonddbmhljelgaaBalT11
import Derived.Test.YtonddbmhljelgaaBalW
set_option linter.unusedVariables false
set_option linter.unusedSimpArgs false
namespace Go.Bal
open Go
def Fj (N : NetL) (T : TruthL) (i : Nat) : Way := if i < N.r.length then ⟨(gD N.r i).fr, (gD N.r i).to, (gD N.r i).sp, gD T.f i⟩ else ⟨N.g.length, (i - N.r.length : Nat), gD N.g (i - N.r.length), gD T.t (i - N.r.length)⟩
def CD (N : NetL) (T : TruthL) : Desk := ⟨(List.range (N.r.length + N.g.length)).map (Fj N T), N.g.length, N.r.length⟩
variable {N : NetL} {T : TruthL}
theorem DY : (CD N T).all.length = N.r.length + N.g.length := by simp [CD]
theorem QY {i : Nat} (hi : i < N.r.length + N.g.length) : gD (CD N T).all i = Fj N T i := DU _ hi
theorem Km {i : Nat} (hi : i < N.r.length) : Fj N T i = ⟨(gD N.r i).fr, (gD N.r i).to, (gD N.r i).sp, gD T.f i⟩ := if_pos hi
theorem Jy (j : Nat) : Fj N T (N.r.length + j) = ⟨N.g.length, j, gD N.g j, gD T.t j⟩ := by
 unfold Fj; rw [if_neg (by omega), show N.r.length + j - N.r.length = j by omega]
theorem IE {i : Nat} (hi : i < N.r.length) : gD (CD N T).all i = ⟨(gD N.r i).fr, (gD N.r i).to, (gD N.r i).sp, gD T.f i⟩ := by
 rw [QY (by omega), Km hi]
theorem HI {j : Nat} (hj : j < N.g.length) : gD (CD N T).all (N.r.length + j) = ⟨N.g.length, j, gD N.g j, gD T.t j⟩ := by
 rw [QY (by omega), Jy]
theorem PP {p : Nat -> Prop} (h1 : ∀ i, i < N.r.length -> p i) (h2 : ∀ j, j < N.g.length -> p (N.r.length + j)) : ∀ i, i < N.r.length + N.g.length -> p i := λ i hi => by
 by_cases hr : i < N.r.length
 ·exact h1 i hr
 ·obtain ⟨j, rfl⟩ : ∃ j, i = N.r.length + j := ⟨i - N.r.length, by omega⟩
  exact h2 j (by omega)
theorem ND : Alike (AQ N) (CD N T) := by
 refine ⟨rfl, rfl, by rw [DY, BV], λ i hi => ?_⟩
 rw [BV] at hi
 revert i
 refine PP (λ i hi => ?_) (λ j hj => ?_)
 ·rw [IE hi, EV, MD _ (by rw [FN]; omega), SK hi]; exact ⟨rfl, rfl, rfl⟩
 ·rw [HI hj, EV, MD _ (by rw [FN]; omega), PJ hj]; exact ⟨rfl, rfl, rfl⟩
theorem Az {d : Desk} {i : Nat} (hi : i < d.nR) : gD (AP d).f i = (gD d.all i).now := DU (λ i => (gD d.all i).now) hi
theorem ZL {d : Desk} {i : Nat} (hi : i < d.out) : gD (AP d).t i = (gD d.all (d.nR + i)).now := DU (λ i => (gD d.all (d.nR + i)).now) hi
theorem LN {d : Desk} (h : Alike (AQ N) d) : CD N (AP d) = d := by
 obtain ⟨h1, h2, h3⟩ := Dq h
 have hnR : d.nR = N.r.length := h.nR
 have hout : d.out = N.g.length := h.out
 have ha : (CD N (AP d)).all = d.all := by
  refine OD (by rw [DY, h1]) λ i hi => ?_
  rw [DY] at hi
  revert i
  refine PP (λ i hi => ?_) (λ j hj => ?_)
  ·obtain ⟨a, b, e⟩ := h2 i hi
   rw [IE hi, Az (by omega), <- a, <- b, <- e]
  ·obtain ⟨a, b, e⟩ := h3 j hj
   rw [HI hj, ZL (by omega), hnR, <- a, <- b, <- e]
 have e : CD N (AP d) = ⟨(CD N (AP d)).all, N.g.length, N.r.length⟩ := rfl
 rw [e, ha, <- hnR, <- hout]
theorem Gx (h1 : T.f.length = N.r.length) (h2 : T.t.length = N.g.length) : AP (CD N T) = T := by
 have e1 : (AP (CD N T)).f = T.f := OD (by simp [AP, h1, CD]) λ i hi => by
  have hi : i < N.r.length := by simpa [AP, CD] using hi
  rw [Az (d := CD N T) hi, IE hi]
 have e2 : (AP (CD N T)).t = T.t := OD (by simp [AP, h2, CD]) λ i hi => by
  have hi : i < N.g.length := by simpa [AP, CD] using hi
  rw [ZL (d := CD N T) hi, show (CD N T).nR = N.r.length from rfl, HI hi]
 obtain ⟨f, t⟩ := T
 show TruthL.mk (AP (CD N ⟨f, t⟩)).f (AP (CD N ⟨f, t⟩)).t = _
 rw [e1, e2]
def bS (s : Int) (r : Reach) (f : Int) : Int := if r.fr = s then -f else if r.to = s then f else 0
theorem At {B : Int} (hB : 0 <= B /\ B <= 1000000000000) (s : Int) : ∀ (l : List Reach) (m : List Int) (x K : Int), l.length = m.length -> (∀ i, i < m.length -> -B <= gD m i /\ gD m i <= B) -> -K <= x /\ x <= K -> K + B * l.length <= 1000000000000000 ->
  Oo s x l m = x + BQ l.length λ i => bS s (gD l i) (gD m i)
 | [], [], x, K, _, _, _, _ => by simp [Oo, BQ]
 | [], _ :: _, x, K, h, _, _, _ => by simp at h
 | _ :: _, [], x, K, h, _, _, _ => by simp at h
 | r :: l, f :: m, x, K, hl, hm, hx, hK => by
  have hf : -B <= f /\ f <= B := hm 0 (by simp)
  have e3 : (B * ((r :: l).length : Nat) : Int) = B * l.length + B := by rw [List.length_cons, Int.natCast_add, Int.mul_add]; omega
  rw [e3] at hK
  have hp : 0 <= B * (l.length : Int) := Int.mul_nonneg (by omega) (by omega)
  have hb : Sw s x r f = x + bS s r f := by
   unfold Sw bS
   rw [DR (n := x - f) (by omega) (by omega), DR (n := x + f) (by omega) (by omega)]
   split
   ·omega
   ·split <;> omega
  have hbb : -B <= bS s r f /\ bS s r f <= B := by unfold bS; split <;> (try split) <;> omega
  rw [List.length_cons, WF]
  simp only [Oo]
  rw [hb, At hB s l m _ (K + B) (by simpa using hl) (λ i hi => hm (i + 1) (by simpa using hi)) (by omega) (by omega)]
  show x + bS s r f + _ = x + (bS s r f + _)
  rw [Int.add_assoc]; rfl
theorem Gp (v : Int) : ∀ l : List Way, EU v l = FE (MF v) l
 | [] => rfl
 | w :: l => by simp only [EU, FE, Gp v l]
theorem Le (v : Int) : EU v (CD N T).all = BQ N.r.length (λ i => MF v (Fj N T i)) + BQ N.g.length λ j => MF v (Fj N T (N.r.length + j)) := by
 rw [Gp, NA, DY, NZ]
 congr 1
 ·exact BL λ i hi => by rw [QY (by omega)]
 ·exact BL λ i hi => by rw [QY (by omega)]
def LJ (T : TruthL) : Prop := (∀ i, i < T.f.length -> -100000000 <= gD T.f i /\ gD T.f i <= 100000000) /\ ∀ i, i < T.t.length -> -100000000 <= gD T.t i /\ gD T.t i <= 100000000
theorem Dy (hg : GoodW N) (h1 : T.f.length = N.r.length) (h2 : T.t.length = N.g.length) (hT : LJ T) {s : Nat} (hs : s < N.g.length) : Cq N T s = EU s (CD N T).all := by
 have h14 := hg.r14
 unfold Cq
 rw [At (B := 100000000) (by omega) s N.r T.f (gD T.t s) 100000000 h1.symm hT.1 (hT.2 s (by omega)) (by omega), Le]
 have e1 : BQ N.g.length (λ j => MF s (Fj N T (N.r.length + j))) = gD T.t s := by
  rw [BL (g := λ j => if j = s then gD T.t s else 0), FR, if_pos hs]
  intro j hj
  rw [Jy]
  unfold MF
  simp only
  rw [if_neg (show ¬ ((N.g.length : Nat) : Int) = (s : Int) by omega)]
  by_cases he : j = s
  ·subst he; simp
  ·rw [if_neg he, if_neg (by omega)]; rfl
 rw [e1, Int.add_comm]
 congr 1
 refine BL λ i hi => ?_
 rw [Km hi]
 obtain ⟨_, _, _, hne⟩ := hg.r i hi
 unfold bS MF
 simp only
 by_cases a : (gD N.r i).fr = (s : Int)
 ·rw [if_pos a, if_pos a, if_neg (by omega)]; omega
 ·rw [if_neg a, if_neg a]; omega
theorem Cr (hg : GoodW N) : Lay (CD N T) := by
 have h8 := hg.g8
 have h14 := hg.r14
 have hout : (CD N T).out = N.g.length := rfl
 have en : ∀ i, i < N.r.length + N.g.length -> (0 <= (gD (CD N T).all i).fr /\ (gD (CD N T).all i).fr <= N.g.length) /\ 0 <= (gD (CD N T).all i).to /\ (gD (CD N T).all i).to <= N.g.length := by
  refine PP (λ i hi => ?_) (λ j hj => ?_)
  ·rw [IE hi]; obtain ⟨_, a, b, _⟩ := hg.r i hi; simp only; omega
  ·rw [HI hj]; simp only; omega
 refine ⟨⟨h8, by rw [DY]; omega, by rw [DY]; exact Nat.le_refl _, λ i hi => ?_⟩, λ i hi => ?_, λ i hi => ?_⟩
 ·rw [DY] at hi; have := en i hi; rw [hout]; omega
 ·rw [DY] at hi; have := en i hi; rw [hout]; omega
 ·have hi : i < N.g.length := hi
  rw [show (CD N T).nR = N.r.length from rfl, HI hi]; exact ⟨rfl, rfl⟩
theorem Ec (hg : GoodW N) (h1 : T.f.length = N.r.length) (h2 : T.t.length = N.g.length) (hT : LJ T) : XU N T = [] ↔ ∀ v : Nat, v < 10 -> EU v (CD N T).all = 0 := by
 have hL := Cr (T := T) hg
 have hout : (CD N T).out = N.g.length := rfl
 have e : XU N T = [] ↔ ∀ s, s < N.g.length -> Cq N T s = 0 := by
  unfold XU Un
  rw [List.map_eq_nil_iff, List.filter_eq_nil_iff]
  simp only [List.mem_range, Su, Bool.not_eq_true', decide_eq_false_iff_not, Decidable.not_not]
 rw [e]
 constructor
 ·intro h v hv
  by_cases hvs : v < N.g.length
  ·rw [<- Dy hg h1 h2 hT hvs]; exact h v hvs
  ·by_cases hvo : v = N.g.length
   ·subst hvo
    refine Classical.byContradiction λ hne => ?_
    obtain ⟨⟨a, ha, pa⟩, ⟨b, hb, pb⟩⟩ := hL.both hv hne
    have k : ∀ u : Nat, u < 10 -> u ≠ N.g.length -> EU u (CD N T).all = 0 := λ u hu hn => by
     by_cases hus : u < N.g.length
     ·rw [<- Dy hg h1 h2 hT hus]; exact h u hus
     ·exact hL.zero (by omega)
    by_cases ea : a = N.g.length
    ·by_cases eb : b = N.g.length
     ·subst ea; rw [eb] at pb; omega
     ·rw [k b hb eb] at pb; omega
    ·rw [k a ha ea] at pa; omega
   ·exact hL.zero (by omega)
 ·intro h s hs
  have := hg.g8
  rw [Dy hg h1 h2 hT hs]; exact h s (by omega)
theorem UN (hg : GoodW N) (h1 : T.f.length = N.r.length) (h2 : T.t.length = N.g.length) (hT : LJ T) : IJ N T = LX (CD N T).all := by
 rw [<- Ck hg (ND (T := T)), Gx h1 h2]
 intro i hi
 rw [DY] at hi
 revert i
 refine PP (λ i hi => ?_) (λ j hj => ?_)
 ·rw [IE hi]; have := hT.1 i (by omega); simp only; omega
 ·rw [HI hj]; have := hT.2 j (by omega); simp only; omega
end Go.Bal
