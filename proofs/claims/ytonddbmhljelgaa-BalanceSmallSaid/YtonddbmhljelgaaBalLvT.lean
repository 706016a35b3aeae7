/- The reference: which levels there are, and what they prove, told plainly. -/
import Derived.Test.YtonddbmhljelgaaBalLv4
set_option linter.unusedVariables false
set_option linter.unusedSimpArgs false
namespace Go.Bal
open Go
def Ss (a : LvA) (j : Nat) : Int := if gD a.grp j = true then a.gate else 0
structure LvOk (a : LvA) (s : Nat) (lv : List Int) : Prop where
 len : lv.length = s
 at' : ∀ j, j < s -> -1 <= gD lv j - Ss a j /\ gD lv j - Ss a j <= 1
 rise : ∀ i, i < a.N.r.length -> (gD a.N.r i).fr < s -> (gD a.N.r i).to < s -> -1 <= gD lv (gD a.N.r i).to.toNat - gD lv (gD a.N.r i).fr.toNat /\ gD lv (gD a.N.r i).to.toNat - gD lv (gD a.N.r i).fr.toNat <= 1
theorem BHC {a : LvA} (hg : -1 <= a.gate /\ a.gate <= 1) (s : Nat) {d : Nat} (hd : d < 3) : gV a s d = Ss a s + ((d : Int) - 1) := by
 unfold gV Ss
 cases gD a.grp s with
 | true =>
  simp only [cond_true, if_true]
  exact Gp (by omega) (by omega)
 | false => simp
theorem APF {a : LvA} (hg : -1 <= a.gate /\ a.gate <= 1) (j : Nat) : -1 <= Ss a j /\ Ss a j <= 1 := by
 unfold Ss; split <;> omega
theorem AFW (a : LvA) (s : Nat) (lv : List Int) (x : Int) : ∀ n, Wa a s lv x n = true ↔ ∀ i, i < n -> lvB s lv x (gD a.N.r i) = true
 | 0 => by simp [Wa]
 | n + 1 => by
  simp only [Wa, Bool.and_eq_true, AFW a s lv x n]
  constructor
  ·rintro ⟨h1, h2⟩ i hi
   by_cases he : i = n
   ·subst he; exact h2
   ·exact h1 i (by omega)
  ·intro h
   exact ⟨λ i hi => h i (by omega), h n (by omega)⟩
theorem AZH {a : LvA} {s : Nat} {lv l : List Int} : ∀ {n : Nat}, l ∈ lvD a s lv n ↔ ∃ d, d < n /\ Wa a s lv (gV a s d) a.N.r.length = true /\ l = lv ++ [gV a s d]
 | 0 => by simp [lvD]
 | n + 1 => by
  simp only [lvD, List.mem_append, AZH (n := n)]
  constructor
  ·rintro (⟨d, h1, h2⟩ | h)
   ·exact ⟨d, by omega, h2⟩
   ·unfold jQ at h
    split at h
    ·rename_i hf
     exact ⟨n, by omega, hf, by simpa using h⟩
    ·cases h
  ·rintro ⟨d, h1, h2, h3⟩
   by_cases he : d = n
   ·subst he
    right
    unfold jQ
    rw [if_pos h2, h3]; simp
   ·exact .inl ⟨d, by omega, h2, h3⟩
theorem AZS {a : LvA} {s : Nat} {all : List (List Int)} {l : List Int} : ∀ {n : Nat}, l ∈ lvK a s all n ↔ ∃ k, k < n /\ l ∈ lvD a s (gD all k) 3
 | 0 => by simp [lvK]
 | n + 1 => by
  simp only [lvK, List.mem_append, AZS (n := n)]
  constructor
  ·rintro (⟨k, h1, h2⟩ | h)
   ·exact ⟨k, by omega, h2⟩
   ·exact ⟨n, by omega, h⟩
  ·rintro ⟨k, h1, h2⟩
   by_cases he : k = n
   ·subst he; exact .inr h2
   ·exact .inl ⟨k, by omega, h2⟩
theorem xF {α : Type} [Inhabited α] {l : List α} {w : α} (h : w ∈ l) : ∃ i, i < l.length /\ gD l i = w := by
 obtain ⟨i, hi, he⟩ := List.getElem_of_mem h
 exact ⟨i, hi, by rw [<- he]; simp [gD, List.getElem?_eq_getElem hi]⟩
theorem AUM {a : LvA} {s : Nat} {l : List Int} : l ∈ BZ a (s + 1) ↔ ∃ lv, lv ∈ BZ a s /\ ∃ d, d < 3 /\ Wa a s lv (gV a s d) a.N.r.length = true /\ l = lv ++ [gV a s d] := by
 simp only [BZ, AZS, AZH]
 constructor
 ·rintro ⟨k, hk, h⟩
  exact ⟨_, Fi hk, h⟩
 ·rintro ⟨lv, hm, h⟩
  obtain ⟨k, hk, rfl⟩ := xF hm
  exact ⟨k, hk, h⟩
theorem BBR {s : Nat} {lv : List Int} {x : Int} {r : Reach} (hne : r.fr ≠ r.to) (h0 : 0 <= r.fr /\ 0 <= r.to) (hx : -3 <= x /\ x <= 3) (hb : ∀ j : Nat, j < s -> -3 <= gD lv j /\ gD lv j <= 3) : lvB s lv x r = true ↔ (r.fr = s -> r.to < s -> -1 <= gD lv r.to.toNat - x /\ gD lv r.to.toNat - x <= 1) /\ (r.to = s -> r.fr < s -> -1 <= x - gD lv r.fr.toNat /\ x - gD lv r.fr.toNat <= 1) := by
 unfold lvB
 by_cases h : r.fr > r.to
 ·simp only [decide_eq_true h, cond_true, Bool.or_eq_true, bne_iff_ne, ne_eq]
  by_cases hs : r.fr = (s : Int)
  ·have b := hb r.to.toNat (by omega)
   have ew : wr (x - gD lv r.to.toNat) = x - gD lv r.to.toNat := Gp (by omega) (by omega)
   rw [ew, CV]
   constructor
   ·rintro (h1 | h1)
    ·exact absurd hs h1
    ·exact ⟨λ _ _ => by omega, λ _ _ => by omega⟩
   ·rintro ⟨h1, _⟩
    have := h1 hs (by omega)
    right; omega
  ·exact ⟨λ _ => ⟨λ h1 => absurd h1 hs, λ _ _ => by omega⟩, λ _ => .inl hs⟩
 ·simp only [decide_eq_false h, cond_false, Bool.or_eq_true, bne_iff_ne, ne_eq]
  by_cases hs : r.to = (s : Int)
  ·have b := hb r.fr.toNat (by omega)
   have ew : wr (x - gD lv r.fr.toNat) = x - gD lv r.fr.toNat := Gp (by omega) (by omega)
   rw [ew, CV]
   constructor
   ·rintro (h1 | h1)
    ·exact absurd hs h1
    ·exact ⟨λ _ _ => by omega, λ _ _ => by omega⟩
   ·rintro ⟨_, h1⟩
    have := h1 hs (by omega)
    right; omega
  ·exact ⟨λ _ => ⟨λ _ _ => by omega, λ h1 => absurd h1 hs⟩, λ _ => .inl hs⟩
theorem pB {a : LvA} (hN : Good a.N) (hg : -1 <= a.gate /\ a.gate <= 1) : ∀ (s : Nat) (l : List Int), l ∈ BZ a s ↔ LvOk a s l
 | 0, l => by
  simp only [BZ, List.mem_singleton]
  constructor
  ·rintro rfl
   refine ⟨rfl, λ j hj => by omega, λ i hi h1 _ => ?_⟩
   obtain ⟨_, b1, _⟩ := hN.r i hi
   omega
  ·intro h
   have := h.len
   exact List.length_eq_zero_iff.1 this
 | s + 1, l => by
  rw [AUM]
  have B : ∀ lv, LvOk a s lv -> ∀ j : Nat, j < s -> -3 <= gD lv j /\ gD lv j <= 3 := λ lv h j hj => by
   have := h.at' j hj; have := APF hg j; omega
  constructor
  ·rintro ⟨lv, hm, d, hd, hf, rfl⟩
   have h := (pB hN hg s lv).1 hm
   have hl := h.len
   have ex := BHC hg s hd
   have hb := APF hg s
   rw [AFW] at hf
   have get : ∀ j : Nat, gD (lv ++ [gV a s d]) j = if j < s then gD lv j else gD [gV a s d] (j - s) := λ j => by rw [CP, hl]
   have gs : gD (lv ++ [gV a s d]) s = gV a s d := by rw [get, if_neg (by omega), Nat.sub_self]; rfl
   refine ⟨by simp [hl], λ j hj => ?_, λ i hi h1 h2 => ?_⟩
   ·by_cases hj' : j < s
    ·rw [get, if_pos hj']; exact h.at' j hj'
    ·rw [show j = s by omega, gs, ex]; omega
   ·obtain ⟨_, b1, b2, b3⟩ := hN.r i hi
    obtain ⟨c1, c2⟩ := (BBR b3 ⟨b1.1, b2.1⟩ (by omega) (B lv h)).1 (hf i hi)
    by_cases e1 : (gD a.N.r i).fr = s
    ·have := c1 e1 (by omega)
     rw [get (gD a.N.r i).to.toNat, if_pos (by omega), show (gD a.N.r i).fr.toNat = s by omega, gs]; exact this
    ·by_cases e2 : (gD a.N.r i).to = s
     ·have := c2 e2 (by omega)
      rw [get (gD a.N.r i).fr.toNat, if_pos (by omega), show (gD a.N.r i).to.toNat = s by omega, gs]; exact this
     ·rw [get, get, if_pos (by omega), if_pos (by omega)]
      exact h.rise i hi (by omega) (by omega)
  ·intro h
   have hl := h.len
   obtain ⟨lv, x, rfl⟩ : ∃ lv x, l = lv ++ [x] := by
    refine ⟨l.dropLast, l.getLast (by intro he; rw [he] at hl; simp at hl), ?_⟩
    exact (List.dropLast_concat_getLast _).symm
   have hl : lv.length = s := by simpa using hl
   have get : ∀ j : Nat, gD (lv ++ [x]) j = if j < s then gD lv j else gD [x] (j - s) := λ j => by rw [CP, hl]
   have gs : gD (lv ++ [x]) s = x := by rw [get, if_neg (by omega), Nat.sub_self]; rfl
   have hx := h.at' s (by omega)
   rw [gs] at hx
   have hb := APF hg s
   have hlv : LvOk a s lv := ⟨hl, λ j hj => by have := h.at' j (by omega); rw [get, if_pos hj] at this; exact this, λ i hi h1 h2 => by
    obtain ⟨_, b1, b2, b3⟩ := hN.r i hi
    have := h.rise i hi (by omega) (by omega)
    rw [get, get, if_pos (by omega), if_pos (by omega)] at this; exact this⟩
   have hd : (x - Ss a s + 1).toNat < 3 := by omega
   have ex : gV a s (x - Ss a s + 1).toNat = x := by rw [BHC hg s hd]; omega
   refine ⟨lv, (pB hN hg s lv).2 hlv, (x - Ss a s + 1).toNat, hd, ?_, by rw [ex]⟩
   rw [ex, AFW]
   intro i hi
   obtain ⟨_, b1, b2, b3⟩ := hN.r i hi
   refine (BBR b3 ⟨b1.1, b2.1⟩ (by omega) (B lv hlv)).2 ⟨λ e1 e2 => ?_, λ e1 e2 => ?_⟩
   ·have := h.rise i hi (by omega) (by omega)
    rw [get (gD a.N.r i).to.toNat, if_pos (by omega), show (gD a.N.r i).fr.toNat = s by omega, gs] at this; exact this
   ·have := h.rise i hi (by omega) (by omega)
    rw [get (gD a.N.r i).fr.toNat, if_pos (by omega), show (gD a.N.r i).to.toNat = s by omega, gs] at this; exact this
theorem AQM {r : Int} {s : Span} (hs : -1000000 <= s.lo /\ s.lo <= s.hi /\ s.hi <= 1000000) : O5 r s = Yi (-r) s := by
 unfold O5 Yi
 by_cases h1 : r = 1
 ·rw [if_pos h1, if_neg (by omega), if_pos (by omega)]
 ·rw [if_neg h1]
  by_cases h2 : r = -1
  ·rw [if_pos h2, if_pos (by omega)]; exact Gp (by omega) (by omega)
  ·rw [if_neg h2, if_neg (by omega), if_neg (by omega)]
def Gd (a : PvA) (j : Nat) : Int := if gD a.grp j = true then a.gate else 0
theorem AUQ {a : PvA} (hg : Good a.N) (hb : ∀ j, j < a.N.g.length -> -3 <= gD a.lv j /\ gD a.lv j <= 3) (hgt : -1 <= a.gate /\ a.gate <= 1) (hs : -1 <= a.skip /\ a.skip <= 1000) :
  Pr a a.N.g.length = DG a.N.r.length (λ i => if (i : Int) = a.skip then 0 else Yi (-(gD a.lv (gD a.N.r i).to.toNat - gD a.lv (gD a.N.r i).fr.toNat)) (gD a.N.r i).sp) + DG a.N.g.length λ j => if (j : Int) = a.skip - 100 then 0 else Yi (-(gD a.lv j - Gd a j)) (gD a.N.g j) := by
 have h8 := hg.g8
 have h14 := hg.r14
 have es : wr (a.skip - 100) = a.skip - 100 := Gp (by omega) (by omega)
 have R : ∀ n, n <= a.N.r.length -> pvR a n = DG n (λ i => if (i : Int) = a.skip then 0 else Yi (-(gD a.lv (gD a.N.r i).to.toNat - gD a.lv (gD a.N.r i).fr.toNat)) (gD a.N.r i).sp) /\ -(1000000 * (n : Int)) <= pvR a n /\ pvR a n <= 1000000 * n := by
  intro n
  induction n with
  | zero => intro _; simp [pvR, DG]
  | succ n ih =>
   intro hn
   obtain ⟨i1, i2, i3⟩ := ih (by omega)
   obtain ⟨b0, b1, b2, b3⟩ := hg.r n (by omega)
   have e1 := hb (gD a.N.r n).to.toNat (by omega)
   have e2 := hb (gD a.N.r n).fr.toNat (by omega)
   have ew : pvRi a n = gD a.lv (gD a.N.r n).to.toNat - gD a.lv (gD a.N.r n).fr.toNat := Gp (by omega) (by omega)
   have hsp : -1000000 <= (gD a.N.r n).sp.lo /\ (gD a.N.r n).sp.lo <= (gD a.N.r n).sp.hi /\ (gD a.N.r n).sp.hi <= 1000000 := by omega
   have hlb := tD (-(gD a.lv (gD a.N.r n).to.toNat - gD a.lv (gD a.N.r n).fr.toNat)) hsp
   simp only [pvR, DG]
   rw [ew, AQM hsp]
   by_cases hk : (n : Int) = a.skip
   ·have : ((n : Int) != a.skip) = false := by simpa using hk
    rw [this, if_pos hk]; simp only [cond_false]
    exact ⟨by omega, by omega, by omega⟩
   ·have : ((n : Int) != a.skip) = true := by simpa using hk
    rw [this, if_neg hk]; simp only [cond_true]
    have ew2 : wr (pvR a n + Yi (-(gD a.lv (gD a.N.r n).to.toNat - gD a.lv (gD a.N.r n).fr.toNat)) (gD a.N.r n).sp) = pvR a n + Yi (-(gD a.lv (gD a.N.r n).to.toNat - gD a.lv (gD a.N.r n).fr.toNat)) (gD a.N.r n).sp := Gp (by omega) (by omega)
    rw [ew2]
    exact ⟨by omega, by omega, by omega⟩
 obtain ⟨r1, r2, r3⟩ := R _ (Nat.le_refl _)
 have G : ∀ n, n <= a.N.g.length -> Pr a n = pvR a a.N.r.length + DG n (λ j => if (j : Int) = a.skip - 100 then 0 else Yi (-(gD a.lv j - Gd a j)) (gD a.N.g j)) /\ -(1000000 * (n : Int)) - 14000000 <= Pr a n /\ Pr a n <= 1000000 * n + 14000000 := by
  intro n
  induction n with
  | zero =>
   intro _
   simp only [Pr, DG]
   omega
  | succ n ih =>
   intro hn
   obtain ⟨i1, i2, i3⟩ := ih (by omega)
   have b0 := hg.g n (by omega)
   have e1 := hb n (by omega)
   have hbp : -1 <= Gd a n /\ Gd a n <= 1 := by unfold Gd; split <;> omega
   have ec : (bif gD a.grp n then a.gate else 0) = Gd a n := by
    unfold Gd; cases gD a.grp n <;> rfl
   have ew : pvGi a n = gD a.lv n - Gd a n := by unfold pvGi; rw [ec]; exact Gp (by omega) (by omega)
   have hsp : -1000000 <= (gD a.N.g n).lo /\ (gD a.N.g n).lo <= (gD a.N.g n).hi /\ (gD a.N.g n).hi <= 1000000 := by omega
   have hlb := tD (-(gD a.lv n - Gd a n)) hsp
   simp only [Pr, DG]
   rw [ew, AQM hsp, es]
   by_cases hk : (n : Int) = a.skip - 100
   ·have : ((n : Int) != a.skip - 100) = false := by simpa using hk
    rw [this, if_pos hk]; simp only [cond_false]
    exact ⟨by omega, by omega, by omega⟩
   ·have : ((n : Int) != a.skip - 100) = true := by simpa using hk
    rw [this, if_neg hk]; simp only [cond_true]
    have ew2 : wr (Pr a n + Yi (-(gD a.lv n - Gd a n)) (gD a.N.g n)) = Pr a n + Yi (-(gD a.lv n - Gd a n)) (gD a.N.g n) := Gp (by omega) (by omega)
    rw [ew2]
    exact ⟨by omega, by omega, by omega⟩
 rw [(G _ (Nat.le_refl _)).1, r1]
variable {N : NetL} {T : TruthL}
theorem BCL (N : NetL) (lv : List Int) (gate skip : Int) (j : Nat) : Gd ⟨N, lv, EL N, gate, skip⟩ j = 0 := by
 unfold Gd EL
 simp only [GN]
 by_cases h : j < N.g.length
 ·simp [h]
 ·rw [if_neg h]; rfl
theorem AUE (N : NetL) (gate : Int) (j : Nat) : Ss ⟨N, EL N, gate⟩ j = 0 := by
 unfold Ss EL
 simp only [GN]
 by_cases h : j < N.g.length
 ·simp [h]
 ·rw [if_neg h]; rfl
theorem xA (h : AB N = 0) (lv : List Int) : lv ∈ BS N ↔ XM N lv = true := by
 have hg := BB h
 unfold BS
 rw [pB (a := lvA0 N) hg (by show (-1 : Int) <= 0 /\ (0 : Int) <= 1; omega), SQ]
 have hz : ∀ j, Ss (lvA0 N) j = 0 := AUE N 0
 have key : ∀ i, i < N.r.length -> lv.length = N.g.length -> (∀ i, i < lv.length -> -1 <= gD lv i /\ gD lv i <= 1) -> Ll lv (gD N.r i) = gD lv (gD N.r i).to.toNat - gD lv (gD N.r i).fr.toNat := λ i hi hl hb => by
  obtain ⟨_, b1, b2, b3⟩ := hg.r i hi
  have := hb (gD N.r i).to.toNat (by omega)
  have := hb (gD N.r i).fr.toNat (by omega)
  exact Gp (by omega) (by omega)
 constructor
 ·rintro ⟨h1, h2, h3⟩
  have hb : ∀ i, i < lv.length -> -1 <= gD lv i /\ gD lv i <= 1 := λ i hi => by have := h2 i (by omega); rw [hz] at this; omega
  refine ⟨h1, hb, λ i hi => ?_⟩
  rw [key i hi h1 hb]
  obtain ⟨_, b1, b2, b3⟩ := hg.r i hi
  exact h3 i hi b1.2 b2.2
 ·rintro ⟨h1, h2, h3⟩
  refine ⟨h1, λ j hj => by rw [hz]; have := h2 j (by omega); omega, λ i hi _ _ => ?_⟩
  have := h3 i hi
  rw [key i hi h1 h2] at this; exact this
theorem ALG (hg : Good N) {lv : List Int} (hl : lv.length = N.g.length) (hb : ∀ j, j < N.g.length -> -1 <= gD lv j /\ gD lv j <= 1) {skip : Int} (hs : -1 <= skip /\ skip <= 1000) {k : Nat} (hk : ∀ i, i < N.r.length -> ((i : Int) = skip ↔ i = k)) (hk2 : ∀ j, j < N.g.length -> ((j : Int) = skip - 100 ↔ N.r.length + j = k)) {d : Desk} (hd : Alike (AO N) d) :
  Pr ⟨N, lv, EL N, 0, skip⟩ N.g.length = El (Yk lv) d.all k := by
 obtain ⟨e1, e2, e3⟩ := OC hd
 rw [AUQ (a := ⟨N, lv, EL N, 0, skip⟩) hg (λ j hj => by have := hb j hj; show -3 <= gD lv j /\ gD lv j <= 3; omega) (by simp only; omega) hs]
 unfold El CJ
 rw [e1, Il]
 congr 1
 ·refine BQ λ i hi => ?_
  obtain ⟨a, b, c⟩ := e2 i hi
  obtain ⟨_, b1, b2, _⟩ := hg.r i hi
  rw [a, b, c]
  by_cases he : i = k
  ·rw [if_pos he, if_pos ((hk i hi).2 he)]
  ·rw [if_neg he, if_neg λ h => he ((hk i hi).1 h)]
   have p1 : Yk lv (gD N.r i).to = -(gD lv (gD N.r i).to.toNat) := by unfold Yk; rw [if_pos (by omega)]
   have p2 : Yk lv (gD N.r i).fr = -(gD lv (gD N.r i).fr.toNat) := by unfold Yk; rw [if_pos (by omega)]
   rw [p1, p2]
   congr 1
   show -(gD lv (gD N.r i).to.toNat - gD lv (gD N.r i).fr.toNat) = _
   omega
 ·refine BQ λ j hj => ?_
  obtain ⟨a, b, c⟩ := e3 j hj
  have hj : j < N.g.length := hj
  rw [a, b, c, BCL]
  by_cases he : N.r.length + j = k
  ·rw [if_pos he, if_pos ((hk2 j hj).2 he)]
  ·rw [if_neg he, if_neg λ h => he ((hk2 j hj).1 h)]
   have p1 : Yk lv (j : Nat) = -(gD lv j) := by unfold Yk; rw [if_pos ⟨by omega, by rw [hl]; omega⟩]; simp
   have p2 : Yk lv (N.g.length : Nat) = 0 := by unfold Yk; exact if_neg λ hh => by rw [hl] at hh; omega
   rw [p1, p2]
   congr 1
   show -(gD lv j - 0) = _
   omega
theorem ASO (π : Int -> Int) (l : List Way) : El π l l.length = YO π l := by
 unfold El YO
 rw [Ld]
 exact BQ λ i hi => by rw [if_neg (by omega)]; rfl
theorem F5 (hg : Good N) {lv : List Int} (hl : lv.length = N.g.length) (hb : ∀ j, j < N.g.length -> -1 <= gD lv j /\ gD lv j <= 1) : Pr ⟨N, lv, EL N, 0, -1⟩ N.g.length = Fr N lv := by
 have hd := Alike.refl (AO N)
 have e1 := (OC hd).1
 have h14 := hg.r14
 rw [ALG hg hl hb (skip := -1) (k := (AO N).all.length) (by omega) (λ i hi => by omega) (λ j hj => by omega) hd, ASO, <- tA hg hl (by rw [hl]; exact hb) hd]
theorem BOK (N : NetL) {K : Nat} {c : Int} (h0 : 0 <= c) (h : ∀ k, k < K -> fY N k (-1) <= c) : bsM N K <= c := by
 induction K with
 | zero => exact h0
 | succ K ih =>
  simp only [bsM]
  have := ih λ k hk => h k (by omega)
  have := h K (by omega)
  cases decide (fY N K (-1) > bsM N K) <;> simp only [cond_true, cond_false] <;> omega
theorem BOY (N : NetL) {K k : Nat} (hk : k < K) : fY N k (-1) <= bsM N K := by
 induction K with
 | zero => omega
 | succ K ih =>
  simp only [bsM]
  by_cases hd : fY N K (-1) > bsM N K
  ·rw [decide_eq_true hd]; simp only [cond_true]
   by_cases he : k = K
   ·subst he; omega
   ·have := ih (by omega); omega
  ·rw [decide_eq_false hd]; simp only [cond_false]
   by_cases he : k = K
   ·subst he; omega
   ·exact ih (by omega)
theorem gA (h : AB N = 0) {k : Nat} (hk : k < (BS N).length) : XM N (gD (BS N) k) = true := (xA h _).1 (Fi hk)
theorem XK {lv : List Int} (hv : XM N lv = true) : lv.length = N.g.length /\ ∀ j, j < N.g.length -> -1 <= gD lv j /\ gD lv j <= 1 := by
 obtain ⟨a, b, _⟩ := SQ.1 hv
 exact ⟨a, by rw [<- a]; exact b⟩
theorem pL (h : AB N = 0) : NZ N = EV N := by
 have hg := BB h
 have hn := TJ h
 unfold NZ
 rw [if_pos h]
 refine Int.le_antisymm (BOK N hn λ k hk => ?_) ?_
 ·have hv := gA h hk
  obtain ⟨a, b⟩ := XK hv
  show Pr ⟨N, gD (BS N) k, EL N, 0, -1⟩ N.g.length <= _
  rw [F5 hg a b]
  exact AHZ h hv
 ·obtain ⟨hv, hp⟩ := AXS h
  obtain ⟨k, hk, he⟩ := xF ((xA h _).2 hv)
  obtain ⟨a, b⟩ := XK hv
  have := BOY N hk
  have e : fY N k (-1) = Pr ⟨N, gD (BS N) k, EL N, 0, -1⟩ N.g.length := rfl
  rw [e, he, F5 hg a b, hp] at this
  exact this
theorem BCS (N : NetL) : NZ N = corC N := by
 unfold corC
 by_cases h : AB N = 0
 ·rw [if_pos h, pL h]
 ·rw [if_neg h]; unfold NZ; rw [if_neg h]
theorem vU (N : NetL) : nV N = WM N := by
 unfold nV WM
 by_cases h : AB N = 0
 ·rw [if_pos h, pL h]
  by_cases h2 : 0 < EV N
  ·rw [if_pos ⟨h, h2⟩, if_pos h2]
  ·rw [if_neg λ h' => h2 h'.2, if_neg h2, h]
 ·rw [if_neg λ h' => h h'.1, if_neg h]
def ZM (s : Span) (rise rest : Nat -> Int) : Nat -> Span
 | 0 => s
 | k + 1 => limM (ZM s rise rest k) (rise k) (rest k)
theorem wB (s : Span) {rise rest : Nat -> Int} : ∀ {K : Nat}, (∀ k, k < K -> rise k = 1 -> -1000000000000 <= rest k /\ rest k <= 1000000000000) -> (ZM s rise rest K).hi <= s.hi /\ (∀ k, k < K -> rise k = 1 -> (ZM s rise rest K).hi <= -(rest k)) /\ ((ZM s rise rest K).hi = s.hi ∨ ∃ k, k < K /\ rise k = 1 /\ (ZM s rise rest K).hi = -(rest k))
 | 0, _ => ⟨Int.le_refl _, λ k hk => by omega, .inl rfl⟩
 | K + 1, h => by
  obtain ⟨h1, h2, h3⟩ := wB s (K := K) λ k hk => h k (by omega)
  simp only [ZM, limM]
  by_cases hr : rise K = 1
  ·have hb := h K (by omega) hr
   have ew : wr (-rest K) = -rest K := Gp (by omega) (by omega)
   rw [if_pos hr, ew]
   refine ⟨by omega, λ k hk hk1 => ?_, ?_⟩
   ·by_cases he : k = K
    ·subst he; omega
    ·have := h2 k (by omega) hk1; omega
   ·by_cases hm : (ZM s rise rest K).hi <= -rest K
    ·rw [Int.min_eq_left hm]
     rcases h3 with h3 | ⟨k, hk, e1, e2⟩
     ·exact .inl h3
     ·exact .inr ⟨k, by omega, e1, e2⟩
    ·exact .inr ⟨K, by omega, hr, by omega⟩
  ·rw [if_neg hr]
   refine ⟨h1, λ k hk hk1 => ?_, ?_⟩
   ·by_cases he : k = K
    ·subst he; exact absurd hk1 hr
    ·exact h2 k (by omega) hk1
   ·rcases h3 with h3 | ⟨k, hk, e1, e2⟩
    ·exact .inl h3
    ·exact .inr ⟨k, by omega, e1, e2⟩
theorem zD (s : Span) {rise rest : Nat -> Int} : ∀ {K : Nat}, s.lo <= (ZM s rise rest K).lo /\ (∀ k, k < K -> rise k = -1 -> rest k <= (ZM s rise rest K).lo) /\ ((ZM s rise rest K).lo = s.lo ∨ ∃ k, k < K /\ rise k = -1 /\ (ZM s rise rest K).lo = rest k)
 | 0 => ⟨Int.le_refl _, λ k hk => by omega, .inl rfl⟩
 | K + 1 => by
  obtain ⟨h1, h2, h3⟩ := zD s (rise := rise) (rest := rest) (K := K)
  simp only [ZM, limM]
  by_cases hr : rise K = -1
  ·rw [if_pos hr]
   refine ⟨by omega, λ k hk hk1 => ?_, ?_⟩
   ·by_cases he : k = K
    ·subst he; omega
    ·have := h2 k (by omega) hk1; omega
   ·by_cases hm : rest K <= (ZM s rise rest K).lo
    ·rw [Int.max_eq_left hm]
     rcases h3 with h3 | ⟨k, hk, e1, e2⟩
     ·exact .inl h3
     ·exact .inr ⟨k, by omega, e1, e2⟩
    ·exact .inr ⟨K, by omega, hr, by omega⟩
  ·rw [if_neg hr]
   refine ⟨h1, λ k hk hk1 => ?_, ?_⟩
   ·by_cases he : k = K
    ·subst he; exact absurd hk1 hr
    ·exact h2 k (by omega) hk1
   ·rcases h3 with h3 | ⟨k, hk, e1, e2⟩
    ·exact .inl h3
    ·exact .inr ⟨k, by omega, e1, e2⟩
theorem BBI (N : NetL) (i : Nat) : ∀ K, rsS N i K = ZM ⟨-100000000, 100000000⟩ (λ k => rsR N ⟨i, k⟩) (λ k => fY N k i) K
 | 0 => rfl
 | K + 1 => by simp only [rsS, ZM, BBI N i K]
theorem AZO (N : NetL) (i : Nat) : ∀ K, rsF N i K = true ↔ ∀ k, k < K -> rsR N ⟨i, k⟩ = 0 -> fY N k i <= 0
 | 0 => by simp [rsF]
 | K + 1 => by
  have ih := AZO N i K
  simp only [rsF]
  by_cases hr : rsR N ⟨i, K⟩ = 0
  ·rw [show (rsR N ⟨i, K⟩ == 0) = true by simpa using hr]
   simp only [cond_true]
   by_cases hp : fY N K i > 0
   ·rw [decide_eq_true hp]; simp only [cond_true]
    constructor
    ·intro h; cases h
    ·intro h; have := h K (by omega) hr; omega
   ·rw [decide_eq_false hp]; simp only [cond_false]
    rw [ih]
    constructor
    ·intro h k hk h0
     by_cases he : k = K
     ·subst he; omega
     ·exact h k (by omega) h0
    ·intro h k hk h0; exact h k (by omega) h0
  ·rw [show (rsR N ⟨i, K⟩ == 0) = false by simpa using hr]
   simp only [cond_false]
   rw [ih]
   constructor
   ·intro h k hk h0
    by_cases he : k = K
    ·subst he; exact absurd h0 hr
    ·exact h k (by omega) h0
   ·intro h k hk h0; exact h k (by omega) h0
theorem BMB {a : PvA} (hg : Good a.N) (hb : ∀ j, j < a.N.g.length -> -3 <= gD a.lv j /\ gD a.lv j <= 3) (hgt : -1 <= a.gate /\ a.gate <= 1) (hs : -1 <= a.skip /\ a.skip <= 1000) : -22000000 <= Pr a a.N.g.length /\ Pr a a.N.g.length <= 22000000 := by
 have h8 := hg.g8
 have h14 := hg.r14
 rw [AUQ hg hb hgt hs]
 have c1 := T8 (K := 1000000) (n := a.N.r.length) (f := λ i => if (i : Int) = a.skip then 0 else Yi (-(gD a.lv (gD a.N.r i).to.toNat - gD a.lv (gD a.N.r i).fr.toNat)) (gD a.N.r i).sp) λ i hi => by
  have := tD (-(gD a.lv (gD a.N.r i).to.toNat - gD a.lv (gD a.N.r i).fr.toNat)) (s := (gD a.N.r i).sp) (by have := (hg.r i hi).1; omega)
  split <;> omega
 have c2 := T8 (K := 1000000) (n := a.N.g.length) (f := λ j => if (j : Int) = a.skip - 100 then 0 else Yi (-(gD a.lv j - Gd a j)) (gD a.N.g j)) λ j hj => by
  have := tD (-(gD a.lv j - Gd a j)) (s := gD a.N.g j) (by have := hg.g j hj; omega)
  split <;> omega
 omega
theorem BHM (h : AB N = 0) {k : Nat} (hk : k < (BS N).length) {s : Int} (hs : -1 <= s /\ s <= 1000) : -22000000 <= fY N k s /\ fY N k s <= 22000000 := by
 obtain ⟨a, b⟩ := XK (gA h hk)
 exact BMB (a := ⟨N, gD (BS N) k, EL N, 0, s⟩) (BB h) (λ j hj => by have := b j hj; show -3 <= gD (gD (BS N) k) j /\ gD (gD (BS N) k) j <= 3; omega) (by simp only; omega) hs
end Go.Bal
