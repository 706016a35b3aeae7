/- Package chart: what slices.SortFunc does with 13 to 20 elements that differ (no program in sight). -/
import Derived.Test.YtdbjalgfomknhaaGreatChS
set_option linter.unusedVariables false
set_option linter.unusedSimpArgs false
namespace Go.Bal
open Go Go.Sym Go.Proofs
theorem BHE (key : Int -> Int) {P m S : List Int} {A u v : Nat} (hA : P.length = A) (h1 : u <= v) (h2 : v <= m.length) : Xp key (A + u) (A + v) (wh P m S) = wh P (Xp key u v m) S := by
 subst hA
 have e1 : (wh P m S).take (P.length + u) = P ++ m.take u := by
  unfold wh
  rw [List.take_append, List.take_of_length_le (by omega), show P.length + u - P.length = u by omega, List.take_append, show u - m.length = 0 by omega]
  simp
 have e2 : (wh P m S).take (P.length + v) = P ++ m.take v := by
  unfold wh
  rw [List.take_append, List.take_of_length_le (by omega), show P.length + v - P.length = v by omega, List.take_append, show v - m.length = 0 by omega]
  simp
 have e3 : (wh P m S).drop (P.length + v) = m.drop v ++ S := by
  unfold wh
  rw [List.drop_append, List.drop_of_length_le (by omega), show P.length + v - P.length = v by omega, List.drop_append, show v - m.length = 0 by omega]
  simp
 have e4 : nT (P.length + u) (P.length + v) (wh P m S) = nT u v m := by
  unfold nT
  rw [e2, List.drop_append, List.drop_of_length_le (by omega), show P.length + u - P.length = u by omega]
  simp
 unfold Xp
 rw [e1, e3, e4]
 unfold wh
 simp [List.append_assoc]
theorem ACK (key : Int -> Int) (l : List Int) : Xp key 0 l.length l = Xq key l := by
 unfold Xp nT wh; simp
theorem BLY (key : Int -> Int) {P m S : List Int} {A B : Nat} (hA : P.length = A) (hB : A + m.length = B) : Xp key A B (wh P m S) = wh P (Xq key m) S := by
 have := BHE key (P := P) (m := m) (S := S) (A := A) (u := 0) (v := m.length) hA (Nat.zero_le _) (Nat.le_refl _)
 rw [ACK, hB] at this
 exact this
theorem BPV {key : Int -> Int} {l m : List Int} (hd : ndk key l) (hp : m.Perm l) : Xq key m = Xq key l :=
 AMQ hd ((QQ key m).trans hp) (by rw [(QQ key m).length_eq]; exact Uv key m)
theorem AMM {key : Int -> Int} {A B : Nat} {l : List Int} (h : ndk key l) : ndk key (nT A B l) := by
 unfold ndk nT at *
 exact h.sublist (((List.drop_sublist _ _).trans (List.take_sublist _ _)).map key)
theorem AYF {P m r S : List Int} (h : r.Perm m) : (wh P r S).Perm (wh P m S) := List.Perm.append_left _ (List.Perm.append_right _ h)
theorem BCO {key : Int -> Int} {l l0 : List Int} {A B p : Nat} (hd : ndk key l) (hA : 0 < A) (hAB : A <= B) (hB : B <= l.length) (h1 : A <= p) (h2 : p < B) (hs : Xp key A B l = Xq key l0) : key (gD l (A - 1)) < key (gD l p) := by
 have R := uP key hAB hB
 have up : ∀ i j, i < j -> j < l.length -> key (gD (Xp key A B l) i) <= key (gD (Xp key A B l) j) := λ i j hij hj => by
  have ll : (Xq key l0).length = l.length := by rw [<- hs]; exact R.perm.length_eq
  rw [hs]
  have l2 := (QQ key l0).length_eq
  exact Uv key l0 i j hij (by omega)
 have e := R.lo (A - 1) (by omega)
 have hm : gD l p ∈ nT A B l := by
  have := K2 (A := A) (B := B) (l := l) hB (i := p - A) (by omega)
  rw [show A + (p - A) = p by omega] at this
  rw [<- this]; exact HW (by rw [Kg hAB hB]; omega)
 have hm : gD l p ∈ Xq key (nT A B l) := (QQ _ _).mem_iff.2 hm
 obtain ⟨y, hy, ey⟩ := OV hm
 have sl : (Xq key (nT A B l)).length = B - A := by rw [(QQ _ _).length_eq, Kg hAB hB]
 have tl : (l.take A).length = A := by rw [List.length_take]; omega
 have mid : gD (Xp key A B l) (A + y) = gD l p := by
  have := sG (P := l.take A) (m := Xq key (nT A B l)) (S := l.drop B) (i := y) (by omega)
  rw [tl] at this; rw [<- ey]; exact this
 have := up (A - 1) (A + y) (by omega) (by omega)
 rw [e, mid] at this
 have ne := C8 hd (i := A - 1) (j := p) (by omega) (by omega)
 omega
theorem BYJ {key : Int -> Int} {l : List Int} (hd : ndk key l) {A B a b c : Nat} (h0 : A <= a) (h1 : a < b) (h2 : b < c) (h3 : c < B) (hB : B <= l.length) : ∃ p, (A <= p /\ p < B) /\ mnM key l a b c = (p : Int) /\ (∃ x, (A <= x /\ x < B) /\ key (gD l x) < key (gD l p)) /\ ∃ y, (A <= y /\ y < B) /\ key (gD l p) < key (gD l y) := by
 have n1 := C8 hd h1 (by omega)
 have n2 := C8 hd h2 (by omega)
 have n3 := C8 hd (Nat.lt_trans h1 h2) (by omega)
 have e : ∀ x y : Nat, o2L key l (x : Int) (y : Int) = decide (key (gD l y) < key (gD l x)) := λ x y => by
  rw [Bool.eq_iff_iff, BOF, decide_eq_true_eq, Int.toNat_natCast, Int.toNat_natCast]
 have mk : ∀ p x y : Nat, (A <= p /\ p < B) -> (A <= x /\ x < B) -> (A <= y /\ y < B) -> key (gD l x) < key (gD l p) -> key (gD l p) < key (gD l y) -> ∃ q, (A <= q /\ q < B) /\ (p : Int) = (q : Int) /\ (∃ x, (A <= x /\ x < B) /\ key (gD l x) < key (gD l q)) /\ ∃ y, (A <= y /\ y < B) /\ key (gD l q) < key (gD l y) := λ p x y hp hx hy q1 q2 => ⟨p, hp, rfl, ⟨x, hx, q1⟩, y, hy, q2⟩
 unfold mnM mnB o2A o2B
 by_cases q1 : key (gD l b) < key (gD l a)
 ·rw [e a b, decide_eq_true q1]
  simp only [cond_true]
  by_cases q2 : key (gD l c) < key (gD l a)
  ·rw [e a c, decide_eq_true q2]
   simp only [cond_true]
   by_cases q3 : key (gD l c) < key (gD l b)
   ·rw [e b c, decide_eq_true q3]; exact mk b c a (by omega) (by omega) (by omega) q3 q1
   ·rw [e b c, decide_eq_false q3]; exact mk c b a (by omega) (by omega) (by omega) (by omega) q2
  ·rw [e a c, decide_eq_false q2]
   simp only [cond_false]
   rw [e b a, decide_eq_false (by omega)]
   exact mk a b c (by omega) (by omega) (by omega) q1 (by omega)
 ·rw [e a b, decide_eq_false q1]
  simp only [cond_false]
  by_cases q2 : key (gD l c) < key (gD l b)
  ·rw [e b c, decide_eq_true q2]
   simp only [cond_true]
   by_cases q3 : key (gD l c) < key (gD l a)
   ·rw [e a c, decide_eq_true q3]; exact mk a c b (by omega) (by omega) (by omega) q3 (by omega)
   ·rw [e a c, decide_eq_false q3]; exact mk c a b (by omega) (by omega) (by omega) (by omega) q2
  ·rw [e b c, decide_eq_false q2]
   simp only [cond_false]
   rw [e a b, decide_eq_false q1]
   exact mk b a c (by omega) (by omega) (by omega) (by omega) (by omega)
def Ka (key : Int -> Int) (dn : Bool) (i j : Nat) (l : List Int) : Bool :=
 if dn = false then
  if i <= j /\ key (gD l i) < key (gD l 0) then Ka key false (i + 1) j l else Ka key true i j l
 else if 1 <= j /\ i <= j /\ ¬ key (gD l j) < key (gD l 0) then Ka key true i (j - 1) l
 else decide (i > j)
termination_by 2 * (j + 1 - i) + (if dn then 0 else 1)
decreasing_by all_goals (simp_all; try omega)
theorem CBD {key : Int -> Int} {i j : Nat} {l : List Int} (h1 : i <= j) (h2 : key (gD l i) < key (gD l 0)) : Ka key false i j l = Ka key false (i + 1) j l := by
 conv => lhs; unfold Ka
 rw [if_pos rfl, if_pos ⟨h1, h2⟩]
theorem BOT {key : Int -> Int} {i j : Nat} {l : List Int} (h : ¬(i <= j /\ key (gD l i) < key (gD l 0))) : Ka key false i j l = Ka key true i j l := by
 conv => lhs; unfold Ka
 rw [if_pos rfl, if_neg h]
theorem CBY {key : Int -> Int} {i j : Nat} {l : List Int} (h0 : 1 <= j) (h1 : i <= j) (h2 : ¬key (gD l j) < key (gD l 0)) : Ka key true i j l = Ka key true i (j - 1) l := by
 conv => lhs; unfold Ka
 rw [if_neg (by decide), if_pos ⟨h0, h1, h2⟩]
theorem BGT {key : Int -> Int} {i j : Nat} {l : List Int} (h2 : ¬(i <= j /\ ¬key (gD l j) < key (gD l 0))) : Ka key true i j l = decide (i > j) := by
 conv => lhs; unfold Ka
 rw [if_neg (by decide), if_neg (λ q => h2 q.2)]
def uwr (n : Int) : Int := IntKind.u64.wrap n
def xsN (r : Int) : Int := vB .u64 (vB .u64 (vB .u64 r (uwr (r * 2 ^ 13))) (vB .u64 r (uwr (r * 2 ^ 13)) / 2 ^ 7)) (uwr (vB .u64 (vB .u64 r (uwr (r * 2 ^ 13))) (vB .u64 r (uwr (r * 2 ^ 13)) / 2 ^ 7) * 2 ^ 17))
def xsK (n : Nat) : Nat -> Int
 | 0 => uwr n
 | k + 1 => xsN (xsK n k)
def yE (n : Int) : Int := bif decide (n < 16) then 4 else 5
def otR (n k : Nat) : Int := wr (andI .u64 (xsK n (k + 1)) (uwr (uwr (1 * 2 ^ (yE n).toNat) - 1)))
def otK (n k : Nat) : Int := bif decide (otR n k >= (n : Int)) then wr (otR n k - n) else otR n k
theorem AUF {n k : Nat} (h1 : 13 <= n) (h2 : n <= 20) (hk : k < 3) : (0 <= otR n k /\ otR n k < 2 * n) /\ 0 <= otK n k /\ otK n k < n := by
 have : ∀ a : Fin 8, ∀ b : Fin 3, (0 <= otR (13 + a.1) b.1 /\ otR (13 + a.1) b.1 < 2 * ((13 + a.1 : Nat) : Int)) /\ 0 <= otK (13 + a.1) b.1 /\ otK (13 + a.1) b.1 < ((13 + a.1 : Nat) : Int) := by decide +kernel
 have := this ⟨n - 13, by omega⟩ ⟨k, hk⟩
 simp only [show 13 + (n - 13) = n by omega] at this
 exact this
def bkI (n k : Nat) : Nat := n / 4 * 2 - 1 + k
def bkK (n : Nat) (m : List Int) : Nat -> List Int
 | 0 => m
 | k + 1 => sw2 (bkK n m k) (bkI n k) (otK n k).toNat
theorem ADH {n : Nat} {m : List Int} (hm : m.length = n) (h1 : 13 <= n) (h2 : n <= 20) : ∀ k, k <= 3 -> (bkK n m k).Perm m
 | 0, _ => List.Perm.refl _
 | k + 1, h => by
  have ih := ADH hm h1 h2 k (by omega)
  have l := ih.length_eq
  have o := AUF h1 h2 (show k < 3 by omega)
  exact (Wo (by unfold bkI; omega) (by omega)).trans ih
end Go.Bal
