/- The reference: which levels there are, and what they prove, told plainly. -/
import Derived.Test.YtonddbmhljelgaaBalLv4
import Derived.Test.YtonddbmhljelgaaBalT22
set_option linter.unusedVariables false
set_option linter.unusedSimpArgs false
namespace Go.Bal
open Go
def MK (a : LvA) (j : Nat) : Int := if gD a.grp j = true then a.gate else 0
structure LvOk (a : LvA) (s : Nat) (lv : List Int) : Prop where
 len : lv.length = s
 at' : ∀ j, j < s -> -1 <= gD lv j - MK a j /\ gD lv j - MK a j <= 1
 rise : ∀ i, i < a.N.r.length -> (gD a.N.r i).fr < s -> (gD a.N.r i).to < s -> -1 <= gD lv (gD a.N.r i).to.toNat - gD lv (gD a.N.r i).fr.toNat /\ gD lv (gD a.N.r i).to.toNat - gD lv (gD a.N.r i).fr.toNat <= 1
theorem Yf {a : LvA} (hg : -1 <= a.gate /\ a.gate <= 1) (s : Nat) {d : Nat} (hd : d < 3) : ND a s d = MK a s + ((d : Int) - 1) := by
 unfold ND MK
 cases gD a.grp s with
 | true =>
  simp only [cond_true, if_true]
  exact LO (by omega) (by omega)
 | false => simp
theorem Hl {a : LvA} (hg : -1 <= a.gate /\ a.gate <= 1) (j : Nat) : -1 <= MK a j /\ MK a j <= 1 := by
 unfold MK; split <;> omega
theorem Bz (a : LvA) (s : Nat) (lv : List Int) (x : Int) : ∀ n, NR a s lv x n = true ↔ ∀ i, i < n -> lvB s lv x (gD a.N.r i) = true
 | 0 => by simp [NR]
 | n + 1 => by
  simp only [NR, Bool.and_eq_true, Bz a s lv x n]
  constructor
  ·rintro ⟨h1, h2⟩ i hi
   by_cases he : i = n
   ·subst he; exact h2
   ·exact h1 i (by omega)
  ·intro h
   exact ⟨λ i hi => h i (by omega), h n (by omega)⟩
theorem Rl {a : LvA} {s : Nat} {lv l : List Int} : ∀ {n : Nat}, l ∈ Mr a s lv n ↔ ∃ d, d < n /\ NR a s lv (ND a s d) a.N.r.length = true /\ l = lv ++ [ND a s d]
 | 0 => by simp [Mr]
 | n + 1 => by
  simp only [Mr, List.mem_append, Rl (n := n)]
  constructor
  ·rintro (⟨d, h1, h2⟩ | h)
   ·exact ⟨d, by omega, h2⟩
   ·unfold QY at h
    split at h
    ·rename_i hf
     exact ⟨n, by omega, hf, by simpa using h⟩
    ·cases h
  ·rintro ⟨d, h1, h2, h3⟩
   by_cases he : d = n
   ·subst he
    right
    unfold QY
    rw [if_pos h2, h3]; simp
   ·exact .inl ⟨d, by omega, h2, h3⟩
theorem Qv {a : LvA} {s : Nat} {all : List (List Int)} {l : List Int} : ∀ {n : Nat}, l ∈ To a s all n ↔ ∃ k, k < n /\ l ∈ Mr a s (gD all k) 3
 | 0 => by simp [To]
 | n + 1 => by
  simp only [To, List.mem_append, Qv (n := n)]
  constructor
  ·rintro (⟨k, h1, h2⟩ | h)
   ·exact ⟨k, by omega, h2⟩
   ·exact ⟨n, by omega, h⟩
  ·rintro ⟨k, h1, h2⟩
   by_cases he : k = n
   ·subst he; exact .inr h2
   ·exact .inl ⟨k, by omega, h2⟩
theorem WP {α : Type} [Inhabited α] {l : List α} {w : α} (h : w ∈ l) : ∃ i, i < l.length /\ gD l i = w := by
 obtain ⟨i, hi, he⟩ := List.getElem_of_mem h
 exact ⟨i, hi, by rw [<- he]; simp [gD, List.getElem?_eq_getElem hi]⟩
theorem No {a : LvA} {s : Nat} {l : List Int} : l ∈ AR a (s + 1) ↔ ∃ lv, lv ∈ AR a s /\ ∃ d, d < 3 /\ NR a s lv (ND a s d) a.N.r.length = true /\ l = lv ++ [ND a s d] := by
 simp only [AR, Qv, Rl]
 constructor
 ·rintro ⟨k, hk, h⟩
  exact ⟨_, JG hk, h⟩
 ·rintro ⟨lv, hm, h⟩
  obtain ⟨k, hk, rfl⟩ := WP hm
  exact ⟨k, hk, h⟩
theorem Qc {s : Nat} {lv : List Int} {x : Int} {r : Reach} (hne : r.fr ≠ r.to) (h0 : 0 <= r.fr /\ 0 <= r.to) (hx : -3 <= x /\ x <= 3) (hb : ∀ j : Nat, j < s -> -3 <= gD lv j /\ gD lv j <= 3) : lvB s lv x r = true ↔ (r.fr = s -> r.to < s -> -1 <= gD lv r.to.toNat - x /\ gD lv r.to.toNat - x <= 1) /\ (r.to = s -> r.fr < s -> -1 <= x - gD lv r.fr.toNat /\ x - gD lv r.fr.toNat <= 1) := by
 unfold lvB
 by_cases h : r.fr > r.to
 ·simp only [decide_eq_true h, cond_true, Bool.or_eq_true, bne_iff_ne, ne_eq]
  by_cases hs : r.fr = (s : Int)
  ·have b := hb r.to.toNat (by omega)
   have ew : wr (x - gD lv r.to.toNat) = x - gD lv r.to.toNat := LO (by omega) (by omega)
   rw [ew, BI]
   constructor
   ·rintro (h1 | h1)
    ·exact absurd hs h1
    ·exact ⟨λ _ _ => by omega, λ _ _ => by omega⟩
   ·rintro ⟨h1, _⟩
    have := h1 hs (by omega)
    right; omega
  ·exact ⟨λ _ => ⟨λ h1 => absurd h1 hs, λ _ _ => by omega⟩, λ _ => .inl hs⟩
 ·simp only [decide_eq_false h, cond_false, Bool.or_eq_true, bne_iff_ne, ne_eq]
  by_cases hs : r.to = (s : Int)
  ·have b := hb r.fr.toNat (by omega)
   have ew : wr (x - gD lv r.fr.toNat) = x - gD lv r.fr.toNat := LO (by omega) (by omega)
   rw [ew, BI]
   constructor
   ·rintro (h1 | h1)
    ·exact absurd hs h1
    ·exact ⟨λ _ _ => by omega, λ _ _ => by omega⟩
   ·rintro ⟨_, h1⟩
    have := h1 hs (by omega)
    right; omega
  ·exact ⟨λ _ => ⟨λ _ _ => by omega, λ h1 => absurd h1 hs⟩, λ _ => .inl hs⟩
theorem TD {a : LvA} (hN : Good a.N) (hg : -1 <= a.gate /\ a.gate <= 1) : ∀ (s : Nat) (l : List Int), l ∈ AR a s ↔ LvOk a s l
 | 0, l => by
  simp only [AR, List.mem_singleton]
  constructor
  ·rintro rfl
   refine ⟨rfl, λ j hj => by omega, λ i hi h1 _ => ?_⟩
   obtain ⟨_, b1, _⟩ := hN.r i hi
   omega
  ·intro h
   have := h.len
   exact List.length_eq_zero_iff.1 this
 | s + 1, l => by
  rw [No]
  have B : ∀ lv, LvOk a s lv -> ∀ j : Nat, j < s -> -3 <= gD lv j /\ gD lv j <= 3 := λ lv h j hj => by
   have := h.at' j hj; have := Hl hg j; omega
  constructor
  ·rintro ⟨lv, hm, d, hd, hf, rfl⟩
   have h := (TD hN hg s lv).1 hm
   have hl := h.len
   have ex := Yf hg s hd
   have hb := Hl hg s
   rw [Bz] at hf
   have get : ∀ j : Nat, gD (lv ++ [ND a s d]) j = if j < s then gD lv j else gD [ND a s d] (j - s) := λ j => by rw [BO, hl]
   have gs : gD (lv ++ [ND a s d]) s = ND a s d := by rw [get, if_neg (by omega), Nat.sub_self]; rfl
   refine ⟨by simp [hl], λ j hj => ?_, λ i hi h1 h2 => ?_⟩
   ·by_cases hj' : j < s
    ·rw [get, if_pos hj']; exact h.at' j hj'
    ·rw [show j = s by omega, gs, ex]; omega
   ·obtain ⟨_, b1, b2, b3⟩ := hN.r i hi
    obtain ⟨c1, c2⟩ := (Qc b3 ⟨b1.1, b2.1⟩ (by omega) (B lv h)).1 (hf i hi)
    by_cases e1 : (gD a.N.r i).fr = s
    ·have := c1 e1 (by omega)
     rw [get (gD a.N.r i).to.toNat, if_pos (by omega), show (gD a.N.r i).fr.toNat = s by omega, gs]; exact this
    ·by_cases e2 : (gD a.N.r i).to = s
     ·have := c2 e2 (by omega)
      rw [get (gD a.N.r i).fr.toNat, if_pos (by omega), show (gD a.N.r i).to.toNat = s by omega, gs]; exact this
     ·rw [get, get, if_pos (by omega), if_pos (by omega)]
      exact h.rise i hi (by omega) (by omega)
  ·intro h
   have hl := h.len
   obtain ⟨lv, x, rfl⟩ : ∃ lv x, l = lv ++ [x] := by
    refine ⟨l.dropLast, l.getLast (by intro he; rw [he] at hl; simp at hl), ?_⟩
    exact (List.dropLast_concat_getLast _).symm
   have hl : lv.length = s := by simpa using hl
   have get : ∀ j : Nat, gD (lv ++ [x]) j = if j < s then gD lv j else gD [x] (j - s) := λ j => by rw [BO, hl]
   have gs : gD (lv ++ [x]) s = x := by rw [get, if_neg (by omega), Nat.sub_self]; rfl
   have hx := h.at' s (by omega)
   rw [gs] at hx
   have hb := Hl hg s
   have hlv : LvOk a s lv := ⟨hl, λ j hj => by have := h.at' j (by omega); rw [get, if_pos hj] at this; exact this, λ i hi h1 h2 => by
    obtain ⟨_, b1, b2, b3⟩ := hN.r i hi
    have := h.rise i hi (by omega) (by omega)
    rw [get, get, if_pos (by omega), if_pos (by omega)] at this; exact this⟩
   have hd : (x - MK a s + 1).toNat < 3 := by omega
   have ex : ND a s (x - MK a s + 1).toNat = x := by rw [Yf hg s hd]; omega
   refine ⟨lv, (TD hN hg s lv).2 hlv, (x - MK a s + 1).toNat, hd, ?_, by rw [ex]⟩
   rw [ex, Bz]
   intro i hi
   obtain ⟨_, b1, b2, b3⟩ := hN.r i hi
   refine (Qc b3 ⟨b1.1, b2.1⟩ (by omega) (B lv hlv)).2 ⟨λ e1 e2 => ?_, λ e1 e2 => ?_⟩
   ·have := h.rise i hi (by omega) (by omega)
    rw [get (gD a.N.r i).to.toNat, if_pos (by omega), show (gD a.N.r i).fr.toNat = s by omega, gs] at this; exact this
   ·have := h.rise i hi (by omega) (by omega)
    rw [get (gD a.N.r i).fr.toNat, if_pos (by omega), show (gD a.N.r i).to.toNat = s by omega, gs] at this; exact this
theorem La {r : Int} {s : Span} (hs : -1000000 <= s.lo /\ s.lo <= s.hi /\ s.hi <= 1000000) : PB r s = OF (-r) s := by
 unfold PB OF
 by_cases h1 : r = 1
 ·rw [if_pos h1, if_neg (by omega), if_pos (by omega)]
 ·rw [if_neg h1]
  by_cases h2 : r = -1
  ·rw [if_pos h2, if_pos (by omega)]; exact LO (by omega) (by omega)
  ·rw [if_neg h2, if_neg (by omega), if_neg (by omega)]
def JA (a : PvA) (j : Nat) : Int := if gD a.grp j = true then a.gate else 0
theorem My {a : PvA} (hg : Good a.N) (hb : ∀ j, j < a.N.g.length -> -3 <= gD a.lv j /\ gD a.lv j <= 3) (hgt : -1 <= a.gate /\ a.gate <= 1) (hs : -1 <= a.skip /\ a.skip <= 1000) :
  KN a a.N.g.length = BM a.N.r.length (λ i => if (i : Int) = a.skip then 0 else OF (-(gD a.lv (gD a.N.r i).to.toNat - gD a.lv (gD a.N.r i).fr.toNat)) (gD a.N.r i).sp) + BM a.N.g.length λ j => if (j : Int) = a.skip - 100 then 0 else OF (-(gD a.lv j - JA a j)) (gD a.N.g j) := by
 have h8 := hg.g8
 have h14 := hg.r14
 have es : wr (a.skip - 100) = a.skip - 100 := LO (by omega) (by omega)
 have R : ∀ n, n <= a.N.r.length -> Gd a n = BM n (λ i => if (i : Int) = a.skip then 0 else OF (-(gD a.lv (gD a.N.r i).to.toNat - gD a.lv (gD a.N.r i).fr.toNat)) (gD a.N.r i).sp) /\ -(1000000 * (n : Int)) <= Gd a n /\ Gd a n <= 1000000 * n := by
  intro n
  induction n with
  | zero => intro _; simp [Gd, BM]
  | succ n ih =>
   intro hn
   obtain ⟨i1, i2, i3⟩ := ih (by omega)
   obtain ⟨b0, b1, b2, b3⟩ := hg.r n (by omega)
   have e1 := hb (gD a.N.r n).to.toNat (by omega)
   have e2 := hb (gD a.N.r n).fr.toNat (by omega)
   have ew : pvRi a n = gD a.lv (gD a.N.r n).to.toNat - gD a.lv (gD a.N.r n).fr.toNat := LO (by omega) (by omega)
   have hsp : -1000000 <= (gD a.N.r n).sp.lo /\ (gD a.N.r n).sp.lo <= (gD a.N.r n).sp.hi /\ (gD a.N.r n).sp.hi <= 1000000 := by omega
   have hlb := VN (-(gD a.lv (gD a.N.r n).to.toNat - gD a.lv (gD a.N.r n).fr.toNat)) hsp
   simp only [Gd, BM]
   rw [ew, La hsp]
   by_cases hk : (n : Int) = a.skip
   ·have : ((n : Int) != a.skip) = false := by simpa using hk
    rw [this, if_pos hk]; simp only [cond_false]
    exact ⟨by omega, by omega, by omega⟩
   ·have : ((n : Int) != a.skip) = true := by simpa using hk
    rw [this, if_neg hk]; simp only [cond_true]
    have ew2 : wr (Gd a n + OF (-(gD a.lv (gD a.N.r n).to.toNat - gD a.lv (gD a.N.r n).fr.toNat)) (gD a.N.r n).sp) = Gd a n + OF (-(gD a.lv (gD a.N.r n).to.toNat - gD a.lv (gD a.N.r n).fr.toNat)) (gD a.N.r n).sp := LO (by omega) (by omega)
    rw [ew2]
    exact ⟨by omega, by omega, by omega⟩
 obtain ⟨r1, r2, r3⟩ := R _ (Nat.le_refl _)
 have G : ∀ n, n <= a.N.g.length -> KN a n = Gd a a.N.r.length + BM n (λ j => if (j : Int) = a.skip - 100 then 0 else OF (-(gD a.lv j - JA a j)) (gD a.N.g j)) /\ -(1000000 * (n : Int)) - 14000000 <= KN a n /\ KN a n <= 1000000 * n + 14000000 := by
  intro n
  induction n with
  | zero =>
   intro _
   simp only [KN, BM]
   omega
  | succ n ih =>
   intro hn
   obtain ⟨i1, i2, i3⟩ := ih (by omega)
   have b0 := hg.g n (by omega)
   have e1 := hb n (by omega)
   have hbp : -1 <= JA a n /\ JA a n <= 1 := by unfold JA; split <;> omega
   have ec : (bif gD a.grp n then a.gate else 0) = JA a n := by
    unfold JA; cases gD a.grp n <;> rfl
   have ew : Xy a n = gD a.lv n - JA a n := by unfold Xy; rw [ec]; exact LO (by omega) (by omega)
   have hsp : -1000000 <= (gD a.N.g n).lo /\ (gD a.N.g n).lo <= (gD a.N.g n).hi /\ (gD a.N.g n).hi <= 1000000 := by omega
   have hlb := VN (-(gD a.lv n - JA a n)) hsp
   simp only [KN, BM]
   rw [ew, La hsp, es]
   by_cases hk : (n : Int) = a.skip - 100
   ·have : ((n : Int) != a.skip - 100) = false := by simpa using hk
    rw [this, if_pos hk]; simp only [cond_false]
    exact ⟨by omega, by omega, by omega⟩
   ·have : ((n : Int) != a.skip - 100) = true := by simpa using hk
    rw [this, if_neg hk]; simp only [cond_true]
    have ew2 : wr (KN a n + OF (-(gD a.lv n - JA a n)) (gD a.N.g n)) = KN a n + OF (-(gD a.lv n - JA a n)) (gD a.N.g n) := LO (by omega) (by omega)
    rw [ew2]
    exact ⟨by omega, by omega, by omega⟩
 rw [(G _ (Nat.le_refl _)).1, r1]
variable {N : NetL} {T : TruthL}
theorem Ru (N : NetL) (lv : List Int) (gate skip : Int) (j : Nat) : JA ⟨N, lv, AV N, gate, skip⟩ j = 0 := by
 unfold JA AV
 simp only [CM]
 by_cases h : j < N.g.length
 ·simp [h]
 ·rw [if_neg h]; rfl
theorem Nb (N : NetL) (gate : Int) (j : Nat) : MK ⟨N, AV N, gate⟩ j = 0 := by
 unfold MK AV
 simp only [CM]
 by_cases h : j < N.g.length
 ·simp [h]
 ·rw [if_neg h]; rfl
theorem XB (h : AC N = 0) (lv : List Int) : lv ∈ AQ N ↔ HA N lv = true := by
 have hg := AS h
 unfold AQ
 rw [TD (a := Hy N) hg (by show (-1 : Int) <= 0 /\ (0 : Int) <= 1; omega), FW]
 have hz : ∀ j, MK (Hy N) j = 0 := Nb N 0
 have key : ∀ i, i < N.r.length -> lv.length = N.g.length -> (∀ i, i < lv.length -> -1 <= gD lv i /\ gD lv i <= 1) -> KY lv (gD N.r i) = gD lv (gD N.r i).to.toNat - gD lv (gD N.r i).fr.toNat := λ i hi hl hb => by
  obtain ⟨_, b1, b2, b3⟩ := hg.r i hi
  have := hb (gD N.r i).to.toNat (by omega)
  have := hb (gD N.r i).fr.toNat (by omega)
  exact LO (by omega) (by omega)
 constructor
 ·rintro ⟨h1, h2, h3⟩
  have hb : ∀ i, i < lv.length -> -1 <= gD lv i /\ gD lv i <= 1 := λ i hi => by have := h2 i (by omega); rw [hz] at this; omega
  refine ⟨h1, hb, λ i hi => ?_⟩
  rw [key i hi h1 hb]
  obtain ⟨_, b1, b2, b3⟩ := hg.r i hi
  exact h3 i hi b1.2 b2.2
 ·rintro ⟨h1, h2, h3⟩
  refine ⟨h1, λ j hj => by rw [hz]; have := h2 j (by omega); omega, λ i hi _ _ => ?_⟩
  have := h3 i hi
  rw [key i hi h1 h2] at this; exact this
theorem Jh (hg : Good N) {lv : List Int} (hl : lv.length = N.g.length) (hb : ∀ j, j < N.g.length -> -1 <= gD lv j /\ gD lv j <= 1) {skip : Int} (hs : -1 <= skip /\ skip <= 1000) {k : Nat} (hk : ∀ i, i < N.r.length -> ((i : Int) = skip ↔ i = k)) (hk2 : ∀ j, j < N.g.length -> ((j : Int) = skip - 100 ↔ N.r.length + j = k)) {d : Desk} (hd : Alike (AJ N) d) :
  KN ⟨N, lv, AV N, 0, skip⟩ N.g.length = JI (OG lv) d.all k := by
 obtain ⟨e1, e2, e3⟩ := EN hd
 rw [My (a := ⟨N, lv, AV N, 0, skip⟩) hg (λ j hj => by have := hb j hj; show -3 <= gD lv j /\ gD lv j <= 3; omega) (by simp only; omega) hs]
 unfold JI BG
 rw [e1, JS]
 congr 1
 ·refine AX λ i hi => ?_
  obtain ⟨a, b, c⟩ := e2 i hi
  obtain ⟨_, b1, b2, _⟩ := hg.r i hi
  rw [a, b, c]
  by_cases he : i = k
  ·rw [if_pos he, if_pos ((hk i hi).2 he)]
  ·rw [if_neg he, if_neg λ h => he ((hk i hi).1 h)]
   have p1 : OG lv (gD N.r i).to = -(gD lv (gD N.r i).to.toNat) := by unfold OG; rw [if_pos (by omega)]
   have p2 : OG lv (gD N.r i).fr = -(gD lv (gD N.r i).fr.toNat) := by unfold OG; rw [if_pos (by omega)]
   rw [p1, p2]
   congr 1
   show -(gD lv (gD N.r i).to.toNat - gD lv (gD N.r i).fr.toNat) = _
   omega
 ·refine AX λ j hj => ?_
  obtain ⟨a, b, c⟩ := e3 j hj
  have hj : j < N.g.length := hj
  rw [a, b, c, Ru]
  by_cases he : N.r.length + j = k
  ·rw [if_pos he, if_pos ((hk2 j hj).2 he)]
  ·rw [if_neg he, if_neg λ h => he ((hk2 j hj).1 h)]
   have p1 : OG lv (j : Nat) = -(gD lv j) := by unfold OG; rw [if_pos ⟨by omega, by rw [hl]; omega⟩]; simp
   have p2 : OG lv (N.g.length : Nat) = 0 := by unfold OG; exact if_neg λ hh => by rw [hl] at hh; omega
   rw [p1, p2]
   congr 1
   show -(gD lv j - 0) = _
   omega
theorem Lt (π : Int -> Int) (l : List Way) : JI π l l.length = HR π l := by
 unfold JI HR
 rw [KT]
 exact AX λ i hi => by rw [if_neg (by omega)]; rfl
theorem YE (hg : Good N) {lv : List Int} (hl : lv.length = N.g.length) (hb : ∀ j, j < N.g.length -> -1 <= gD lv j /\ gD lv j <= 1) : KN ⟨N, lv, AV N, 0, -1⟩ N.g.length = HE N lv := by
 have hd := Alike.refl (AJ N)
 have e1 := (EN hd).1
 have h14 := hg.r14
 rw [Jh hg hl hb (skip := -1) (k := (AJ N).all.length) (by omega) (λ i hi => by omega) (λ j hj => by omega) hd, Lt, <- UL hg hl (by rw [hl]; exact hb) hd]
theorem ABC (N : NetL) {K : Nat} {c : Int} (h0 : 0 <= c) (h : ∀ k, k < K -> QE N k (-1) <= c) : Fz N K <= c := by
 induction K with
 | zero => exact h0
 | succ K ih =>
  simp only [Fz]
  have := ih λ k hk => h k (by omega)
  have := h K (by omega)
  cases decide (QE N K (-1) > Fz N K) <;> simp only [cond_true, cond_false] <;> omega
theorem ABD (N : NetL) {K k : Nat} (hk : k < K) : QE N k (-1) <= Fz N K := by
 induction K with
 | zero => omega
 | succ K ih =>
  simp only [Fz]
  by_cases hd : QE N K (-1) > Fz N K
  ·rw [decide_eq_true hd]; simp only [cond_true]
   by_cases he : k = K
   ·subst he; omega
   ·have := ih (by omega); omega
  ·rw [decide_eq_false hd]; simp only [cond_false]
   by_cases he : k = K
   ·subst he; omega
   ·exact ih (by omega)
theorem PN (h : AC N = 0) {k : Nat} (hk : k < (AQ N).length) : HA N (gD (AQ N) k) = true := (XB h _).1 (JG hk)
theorem HC {lv : List Int} (hv : HA N lv = true) : lv.length = N.g.length /\ ∀ j, j < N.g.length -> -1 <= gD lv j /\ gD lv j <= 1 := by
 obtain ⟨a, b, _⟩ := FW.1 hv
 exact ⟨a, by rw [<- a]; exact b⟩
theorem SP (h : AC N = 0) : BU N = BK N := by
 have hg := AS h
 have hn := FY h
 unfold BU
 rw [if_pos h]
 refine Int.le_antisymm (ABC N hn λ k hk => ?_) ?_
 ·have hv := PN h hk
  obtain ⟨a, b⟩ := HC hv
  show KN ⟨N, gD (AQ N) k, AV N, 0, -1⟩ N.g.length <= _
  rw [YE hg a b]
  exact Fo h hv
 ·obtain ⟨hv, hp⟩ := Pz h
  obtain ⟨k, hk, he⟩ := WP ((XB h _).2 hv)
  obtain ⟨a, b⟩ := HC hv
  have := ABD N hk
  have e : QE N k (-1) = KN ⟨N, gD (AQ N) k, AV N, 0, -1⟩ N.g.length := rfl
  rw [e, he, YE hg a b, hp] at this
  exact this
theorem Tm (N : NetL) : BU N = Fd N := by
 unfold Fd
 by_cases h : AC N = 0
 ·rw [if_pos h, SP h]
 ·rw [if_neg h]; unfold BU; rw [if_neg h]
theorem VV (N : NetL) : KP N = FF N := by
 unfold KP FF
 by_cases h : AC N = 0
 ·rw [if_pos h, SP h]
  by_cases h2 : 0 < BK N
  ·rw [if_pos ⟨h, h2⟩, if_pos h2]
  ·rw [if_neg λ h' => h2 h'.2, if_neg h2, h]
 ·rw [if_neg λ h' => h h'.1, if_neg h]
def HO (s : Span) (rise rest : Nat -> Int) : Nat -> Span
 | 0 => s
 | k + 1 => PQ (HO s rise rest k) (rise k) (rest k)
theorem WU (s : Span) {rise rest : Nat -> Int} : ∀ {K : Nat}, (∀ k, k < K -> rise k = 1 -> -1000000000000 <= rest k /\ rest k <= 1000000000000) -> (HO s rise rest K).hi <= s.hi /\ (∀ k, k < K -> rise k = 1 -> (HO s rise rest K).hi <= -(rest k)) /\ ((HO s rise rest K).hi = s.hi ∨ ∃ k, k < K /\ rise k = 1 /\ (HO s rise rest K).hi = -(rest k))
 | 0, _ => ⟨Int.le_refl _, λ k hk => by omega, .inl rfl⟩
 | K + 1, h => by
  obtain ⟨h1, h2, h3⟩ := WU s (K := K) λ k hk => h k (by omega)
  simp only [HO, PQ]
  by_cases hr : rise K = 1
  ·have hb := h K (by omega) hr
   have ew : wr (-rest K) = -rest K := LO (by omega) (by omega)
   rw [if_pos hr, ew]
   refine ⟨by omega, λ k hk hk1 => ?_, ?_⟩
   ·by_cases he : k = K
    ·subst he; omega
    ·have := h2 k (by omega) hk1; omega
   ·by_cases hm : (HO s rise rest K).hi <= -rest K
    ·rw [Int.min_eq_left hm]
     rcases h3 with h3 | ⟨k, hk, e1, e2⟩
     ·exact .inl h3
     ·exact .inr ⟨k, by omega, e1, e2⟩
    ·exact .inr ⟨K, by omega, hr, by omega⟩
  ·rw [if_neg hr]
   refine ⟨h1, λ k hk hk1 => ?_, ?_⟩
   ·by_cases he : k = K
    ·subst he; exact absurd hk1 hr
    ·exact h2 k (by omega) hk1
   ·rcases h3 with h3 | ⟨k, hk, e1, e2⟩
    ·exact .inl h3
    ·exact .inr ⟨k, by omega, e1, e2⟩
theorem VR (s : Span) {rise rest : Nat -> Int} : ∀ {K : Nat}, s.lo <= (HO s rise rest K).lo /\ (∀ k, k < K -> rise k = -1 -> rest k <= (HO s rise rest K).lo) /\ ((HO s rise rest K).lo = s.lo ∨ ∃ k, k < K /\ rise k = -1 /\ (HO s rise rest K).lo = rest k)
 | 0 => ⟨Int.le_refl _, λ k hk => by omega, .inl rfl⟩
 | K + 1 => by
  obtain ⟨h1, h2, h3⟩ := VR s (rise := rise) (rest := rest) (K := K)
  simp only [HO, PQ]
  by_cases hr : rise K = -1
  ·rw [if_pos hr]
   refine ⟨by omega, λ k hk hk1 => ?_, ?_⟩
   ·by_cases he : k = K
    ·subst he; omega
    ·have := h2 k (by omega) hk1; omega
   ·by_cases hm : rest K <= (HO s rise rest K).lo
    ·rw [Int.max_eq_left hm]
     rcases h3 with h3 | ⟨k, hk, e1, e2⟩
     ·exact .inl h3
     ·exact .inr ⟨k, by omega, e1, e2⟩
    ·exact .inr ⟨K, by omega, hr, by omega⟩
  ·rw [if_neg hr]
   refine ⟨h1, λ k hk hk1 => ?_, ?_⟩
   ·by_cases he : k = K
    ·subst he; exact absurd hk1 hr
    ·exact h2 k (by omega) hk1
   ·rcases h3 with h3 | ⟨k, hk, e1, e2⟩
    ·exact .inl h3
    ·exact .inr ⟨k, by omega, e1, e2⟩
theorem Qo (N : NetL) (i : Nat) : ∀ K, Gr N i K = HO ⟨-100000000, 100000000⟩ (λ k => Gg N ⟨i, k⟩) (λ k => QE N k i) K
 | 0 => rfl
 | K + 1 => by simp only [Gr, HO, Qo N i K]
theorem Ri (N : NetL) (i : Nat) : ∀ K, Cy N i K = true ↔ ∀ k, k < K -> Gg N ⟨i, k⟩ = 0 -> QE N k i <= 0
 | 0 => by simp [Cy]
 | K + 1 => by
  have ih := Ri N i K
  simp only [Cy]
  by_cases hr : Gg N ⟨i, K⟩ = 0
  ·rw [show (Gg N ⟨i, K⟩ == 0) = true by simpa using hr]
   simp only [cond_true]
   by_cases hp : QE N K i > 0
   ·rw [decide_eq_true hp]; simp only [cond_true]
    constructor
    ·intro h; cases h
    ·intro h; have := h K (by omega) hr; omega
   ·rw [decide_eq_false hp]; simp only [cond_false]
    rw [ih]
    constructor
    ·intro h k hk h0
     by_cases he : k = K
     ·subst he; omega
     ·exact h k (by omega) h0
    ·intro h k hk h0; exact h k (by omega) h0
  ·rw [show (Gg N ⟨i, K⟩ == 0) = false by simpa using hr]
   simp only [cond_false]
   rw [ih]
   constructor
   ·intro h k hk h0
    by_cases he : k = K
    ·subst he; exact absurd h0 hr
    ·exact h k (by omega) h0
   ·intro h k hk h0; exact h k (by omega) h0
theorem AAN {a : PvA} (hg : Good a.N) (hb : ∀ j, j < a.N.g.length -> -3 <= gD a.lv j /\ gD a.lv j <= 3) (hgt : -1 <= a.gate /\ a.gate <= 1) (hs : -1 <= a.skip /\ a.skip <= 1000) : -22000000 <= KN a a.N.g.length /\ KN a a.N.g.length <= 22000000 := by
 have h8 := hg.g8
 have h14 := hg.r14
 rw [My hg hb hgt hs]
 have c1 := Ax (K := 1000000) (n := a.N.r.length) (f := λ i => if (i : Int) = a.skip then 0 else OF (-(gD a.lv (gD a.N.r i).to.toNat - gD a.lv (gD a.N.r i).fr.toNat)) (gD a.N.r i).sp) λ i hi => by
  have := VN (-(gD a.lv (gD a.N.r i).to.toNat - gD a.lv (gD a.N.r i).fr.toNat)) (s := (gD a.N.r i).sp) (by have := (hg.r i hi).1; omega)
  split <;> omega
 have c2 := Ax (K := 1000000) (n := a.N.g.length) (f := λ j => if (j : Int) = a.skip - 100 then 0 else OF (-(gD a.lv j - JA a j)) (gD a.N.g j)) λ j hj => by
  have := VN (-(gD a.lv j - JA a j)) (s := gD a.N.g j) (by have := hg.g j hj; omega)
  split <;> omega
 omega
theorem Un (h : AC N = 0) {k : Nat} (hk : k < (AQ N).length) {s : Int} (hs : -1 <= s /\ s <= 1000) : -22000000 <= QE N k s /\ QE N k s <= 22000000 := by
 obtain ⟨a, b⟩ := HC (PN h hk)
 exact AAN (a := ⟨N, gD (AQ N) k, AV N, 0, s⟩) (AS h) (λ j hj => by have := b j hj; show -3 <= gD (gD (AQ N) k) j /\ gD (gD (AQ N) k) j <= 3; omega) (by simp only; omega) hs
end Go.Bal
