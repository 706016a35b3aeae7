/- Package balance: settled, fitting, Agrees, Correct, Levels. -/
import Derived.Test.YtonddbmhljelgaaBalJ
set_option linter.unusedVariables false
set_option linter.unusedSimpArgs false
namespace Go.Bal
open Go Go.Sym Go.Proofs
def YP (N : NetL) : Net := ⟨N.g.length, λ i => gD N.g i, N.r.length, λ i => gD N.r i⟩
def AD (N : NetL) : Int := EM (YP N)
def AA (N : NetL) : Desk := ((AT N).getD default).1
def CJ (N : NetL) : Int := ((AT N).getD default).2
def nilP : AVal := .d (.v (.pointer none))
theorem IH {a b c : Int} : GD a b c = true ↔ b <= a /\ a <= c := by simp [GD]
theorem VS {s : Span} : CX s = true ↔ (-1000000 <= s.lo /\ s.lo <= s.hi) /\ s.hi <= 1000000 := by
 unfold CX; simp only [Bool.and_eq_true, IH]; omega
theorem WQ {e : Nat -> Int} : ∀ {n k : Nat}, GE e n k = 0 -> ∀ i, k <= i -> i < k + n -> e i = 0
 | 0, k, _, i, h1, h2 => by omega
 | n + 1, k, h, i, h1, h2 => by
  simp only [GE] at h
  by_cases he : e k = 0
  ·rw [if_pos he] at h
   by_cases hi : i = k
   ·subst hi; exact he
   ·exact WQ h i (by omega) (by omega)
  ·rw [if_neg he] at h; exact absurd h he
structure Good (N : NetL) : Prop where
 g1 : 1 <= N.g.length
 g8 : N.g.length <= 8
 r14 : N.r.length <= 14
 g : ∀ i, i < N.g.length -> (-1000000 <= (gD N.g i).lo /\ (gD N.g i).lo <= (gD N.g i).hi) /\ (gD N.g i).hi <= 1000000
 r : ∀ i, i < N.r.length -> ((-1000000 <= (gD N.r i).sp.lo /\ (gD N.r i).sp.lo <= (gD N.r i).sp.hi) /\ (gD N.r i).sp.hi <= 1000000) /\ (0 <= (gD N.r i).fr /\ (gD N.r i).fr < N.g.length) /\ (0 <= (gD N.r i).to /\ (gD N.r i).to < N.g.length) /\ (gD N.r i).fr ≠ (gD N.r i).to
theorem DD {N : NetL} (h : AD N = 0) : Good N := by
 unfold AD EM at h
 split at h
 ·cases h
 rename_i h1
 split at h
 case isFalse => cases h
 rename_i h2
 have h1 : GD (YP N).nG 1 8 = true /\ ¬ 14 < (YP N).nR := by
  simp only [Bool.or_eq_true, Bool.not_eq_true', decide_eq_true_eq, not_or, Bool.not_eq_false] at h1; exact h1
 have h3 := IH.1 h1.1
 have hg : (YP N).nG = N.g.length := rfl
 have hr : (YP N).nR = N.r.length := rfl
 rw [hg] at h3
 have h14 := h1.2
 rw [hr] at h14
 refine ⟨by omega, by omega, by omega, λ i hi => VS.1 (JQ.1 h2 i hi), λ i hi => ?_⟩
 have := WQ h i (Nat.zero_le _) (by rw [hr]; omega)
 unfold TV at this
 split at this
 ·cases this
 rename_i h4
 split at this
 ·rename_i h5
  have h4 : (GD (gD N.r i).fr 0 ((YP N).nG - 1) = true /\ GD (gD N.r i).to 0 ((YP N).nG - 1) = true) /\ ¬ (gD N.r i).fr = (gD N.r i).to := by
   simp only [Bool.or_eq_true, Bool.not_eq_true', decide_eq_true_eq, not_or, Bool.not_eq_false] at h4; exact h4
  have h6 := IH.1 h4.1.1
  have h7 := IH.1 h4.1.2
  rw [hg] at h6 h7
  exact ⟨VS.1 h5, by omega, by omega, h4.2⟩
 ·cases this
theorem UP {N : NetL} (h : Good N) : (AQ N).ok := by
 have h1 := h.g1
 have h8 := h.g8
 have h14 := h.r14
 refine ⟨h.g8, by rw [BV]; omega, ?_, λ i hi => ?_⟩
 ·rw [BV]; exact Nat.le_refl _
 ·rw [BV] at hi
  rw [EV, MD _ (by rw [FN]; exact hi)]
  show (0 <= (gD (AF N) i).fr /\ (gD (AF N) i).fr < ((N.g.length : Nat) : Int) + 2) /\ 0 <= (gD (AF N) i).to /\ (gD (AF N) i).to < ((N.g.length : Nat) : Int) + 2
  by_cases hr : i < N.r.length
  ·rw [SK hr]
   obtain ⟨_, h2, h3, _⟩ := h.r i hr
   exact ⟨⟨h2.1, by show (gD N.r i).fr < _; omega⟩, h3.1, by show (gD N.r i).to < _; omega⟩
  ·obtain ⟨j, rfl⟩ : ∃ j, i = N.r.length + j := ⟨i - N.r.length, by omega⟩
   rw [PJ (by omega)]
   exact ⟨⟨by simp, by show ((N.g.length : Nat) : Int) < _; omega⟩, by simp, by show ((j : Nat) : Int) < _; omega⟩
def Xp (d d' : Desk) : Prop := d'.all.length = d.all.length /\ d'.out = d.out /\ d'.nR = d.nR
theorem PH : ∀ {k : Nat} {d d' : Desk}, DW k d = some d' -> Xp d d'
 | 0, _, _, h => by cases h
 | k + 1, d, d', h => by
  simp only [DW] at h
  split at h
  ·cases h; exact ⟨rfl, rfl, rfl⟩
  ·split at h
   ·cases h
   ·rename_i d1 hd1
    have h2 := PH h
    unfold GN at hd1
    simp only at hd1
    split at hd1
    ·cases hd1
    split at hd1
    ·cases hd1
    split at hd1
    ·cases hd1
    rename_i hm
    cases hd1
    have h1 := Bh hm
    exact ⟨h2.1.trans h1.1, h2.2.1.trans h1.2.1, h2.2.2.trans h1.2.2⟩
theorem WA {N : NetL} (h : (AT N).isSome = true) : BY (AQ N) = some (AA N) /\ CJ N = IJ N (AP (AA N)) := by
 unfold AA CJ
 unfold AT at h ⊢
 split at h
 ·cases h
 ·rename_i d hd
  rw [hd]; exact ⟨rfl, rfl⟩
theorem IZ {N : NetL} (h : (AT N).isSome = true) : (AA N).all.length = N.r.length + N.g.length /\ (AA N).out = N.g.length /\ (AA N).nR = N.r.length := by
 have h1 := PH (WA h).1
 exact ⟨h1.1.trans (BV N), h1.2.1, h1.2.2⟩
def A55 : Ann := ann 21 [(44, Yx), (67, C67.spec XP), (68, C68.spec OP), (56, C56.spec OP), (70, C70.spec d70)]
def C55 : Ctr := { α := NetL, xs := λ N => [.d (EZ N)], L := λ _ => [], val := λ N => .tup [.bptr 0 0, .int (CJ N), .int 0], keep := λ N => [(0, .live (TY (AA N) 1)), (1, .live (UE (AA N)))], pre := λ N => [AD N = 0, (AT N).isSome = true] }
def V55 (N : NetL) : Prop := BM Try.prog A55 Try.f55 (AJ Try.f55) (C55.xs N) (AE (C55.L N)) (C55.val N) (C55.keep N) [(0, 5016), (1, 5017)] []
theorem Zt (N : NetL) : (V55 N) = (let q := N
 let y0 : List Span := AC q.g.length λ (i : Nat) => gD q.g i
 let y1 := y0.length
 let y2 := y1 = q.g.length
 let y3 (i : Nat) : Span := gD y0 i
 let y4 := ∀ (i : Nat), i < y1 -> (y3 i).lo = (gD q.g i).lo /\ (y3 i).hi = (gD q.g i).hi
 let y5 : List Reach := AC q.r.length λ (i : Nat) => gD q.r i
 let y6 := y5.length
 let y7 := y6 = q.r.length
 let y8 (i : Nat) : Reach := gD y5 i
 let y9 (i : Nat) : Span := (y8 i).sp
 let y10 := ∀ (i : Nat), i < y6 -> (y8 i).fr = (gD q.r i).fr /\ (y8 i).to = (gD q.r i).to /\ (y9 i).lo = (gD q.r i).sp.lo /\ (y9 i).hi = (gD q.r i).sp.hi
 let y11 := (1 : Nat) <= y1 /\ y1 <= (1000 : Nat)
 let y12 := (0 : Nat) = (0 : Nat)
 let y13 : NetL := NetL.mk y0 y5
 let y14 : Desk := AQ y13
 let y15 : List Way := y14.all
 let y16 := y15.length
 let y17 (i : Nat) : Way := gD y15 i
 let y18 : List Way := AC y16 λ (i : Nat) => y17 i
 let y19 := y18.length
 let y20 := y19 = y16
 let y21 := y14.out
 let y22 := y14.nR
 let y23 (i : Nat) : Way := gD y18 i
 let y24 (i : Nat) : Span := (y23 i).sp
 let y25 (i : Nat) : Span := (y17 i).sp
 let y26 : Desk := Desk.mk y18 y21 y22
 let y27 : Option Desk := BY y26
 let y28 : Desk := y27.getD default
 let y29 : List Way := y28.all
 let y30 := y29.length
 let y31 (i : Nat) : Way := gD y29 i
 let y32 : List Way := AC y30 λ (i : Nat) => y31 i
 let y33 := y32.length
 let y34 := y33 = y30
 let y35 := y28.out
 let y36 := (↑y35 : Int) = (↑y35 : Int)
 let y37 := y28.nR
 let y38 := (↑y37 : Int) = (↑y37 : Int)
 let y39 (i : Nat) : Way := gD y32 i
 let y40 (i : Nat) := (y39 i).fr
 let y41 (i : Nat) := (y31 i).fr
 let y42 (i : Nat) := (y39 i).to
 let y43 (i : Nat) := (y31 i).to
 let y44 (i : Nat) : Span := (y39 i).sp
 let y45 (i : Nat) := (y44 i).lo
 let y46 (i : Nat) : Span := (y31 i).sp
 let y47 (i : Nat) := (y46 i).lo
 let y48 (i : Nat) := (y44 i).hi
 let y49 (i : Nat) := (y46 i).hi
 let y50 (i : Nat) := (y39 i).now
 let y51 (i : Nat) := (y31 i).now
 let y52 := y30 = y33
 let y53 : TruthL := AP (Desk.mk y32 y35 y37)
 let y54 : List Int := y53.f
 let y55 : List Int := AC y37 λ (i : Nat) => gD y54 i
 let y56 := y55.length
 let y57 (j : Nat) := (0 : Nat) + j
 let y58 : List Int := y53.t
 let y59 : List Int := AC y35 λ (i : Nat) => gD y58 i
 let y60 := y59.length
 let y61 := (AA q).all.length = y30
 (((∀ (i : Nat), i < N.g.length -> True) /\ ∀ (i : Nat), i < N.r.length -> True) /\ bif EM (Net.mk N.g.length (λ (i : Nat) => gD N.g i) N.r.length λ (i : Nat) => gD N.r i) != (0 :
 Int) then False else (y2 /\ y4 /\ y7 /\ y10 /\ y11 /\ y6.le (1000 : Nat)) /\ (y12 /\ y20 /\ (↑y21 : Int) = (↑y21 : Int) /\ (↑y22 : Int) = (↑y22 : Int) /\ y20
 /\ (∀ (i : Nat), i < y19 -> (y23 i).fr = (y17 i).fr /\ (y23 i).to = (y17 i).to /\ (y24 i).lo = (y25 i).lo /\ (y24 i).hi = (y25 i).hi /\ (y23 i).now = (y17 i).now) /\
 y26.ok /\ y27.isSome = true) /\ (y12 /\ y34 /\ y36 /\ y38 /\ y34 /\ (∀ (i : Nat), i < y33 -> y40 i = y41 i /\ y42 i = y43 i /\ y45 i = y47 i /\ y48 i =
 y49 i /\ y50 i = y51 i) /\ y12 /\ y52 /\ y36 /\ y38 /\ y52 /\ (∀ (i : Nat), i < y30 -> y41 i = y40 i /\ y43 i = y42 i /\ y47 i = y45 i /\ y49 i = y48 i /\ y51 i = y50 i) /\ ((1 : Nat) <= y35 /\ y33 <= (1000 : Nat)) /\ y37 + y35 <= y33 /\ y2 /\ y4 /\ y7 /\ y10 /\ y56 = y37 /\ (0 : Nat) + y37 <= y37 /\ (∀ (j
 : Nat), j < y56 -> gD y55 j = gD y54 (y57 j)) /\ y60 = y35 /\ (0 : Nat) + y35 <= y35 /\ (∀ (j : Nat), j < y60 -> gD y59 j = gD y58 (y57 j)) /\ y11 /\ y6 <=
 (1000 : Nat) /\ y56 = y6 /\ y60 = y1) /\ CJ N = IJ y13 (TruthL.mk y55 y59) /\ Int.ofNat (0 : Nat) = Int.ofNat (0 : Nat) /\ y12 /\ y61 /\ (↑(AA N).out : Int) = (↑y35
 : Int) /\ (↑(AA N).nR : Int) = (↑y37 : Int) /\ y61 /\ ∀ (i : Nat), i < (AA N).all.length -> (gD (AA N).all i).fr = y41 i /\ (gD (AA N).all i).to = y43 i /\ (gD (AA N).all i).sp.lo = y47 i /\
 (gD (AA N).all i).sp.hi = y49 i /\ (gD (AA N).all i).now = y51 i)) := by kernel_rfl
def C55b : Ctr := { α := NetL, xs := λ N => [.d (EZ N)], L := λ _ => [], val := λ N => .tup [nilP, .int 0, .int (AD N)], keep := λ N => [], pre := λ N => [AD N ≠ 0] }
def Xs (N : NetL) : Prop := BM Try.prog A55 Try.f55 (AJ Try.f55) (C55b.xs N) (AE (C55b.L N)) (C55b.val N) (C55b.keep N) [] []
theorem Wz (N : NetL) : (Xs N) = (let q := N
 let y0 := EM (Net.mk q.g.length (λ (i : Nat) => gD q.g i) q.r.length λ (i : Nat) => gD q.r i)
 let y1 : List Span := AC q.g.length λ (i : Nat) => gD q.g i
 let y2 := y1.length
 let y3 := y2 = q.g.length
 let y4 (i : Nat) : Span := gD y1 i
 let y5 := ∀ (i : Nat), i < y2 -> (y4 i).lo = (gD q.g i).lo /\ (y4 i).hi = (gD q.g i).hi
 let y6 : List Reach := AC q.r.length λ (i : Nat) => gD q.r i
 let y7 := y6.length
 let y8 := y7 = q.r.length
 let y9 (i : Nat) : Reach := gD y6 i
 let y10 (i : Nat) : Span := (y9 i).sp
 let y11 := ∀ (i : Nat), i < y7 -> (y9 i).fr = (gD q.r i).fr /\ (y9 i).to = (gD q.r i).to /\ (y10 i).lo = (gD q.r i).sp.lo /\ (y10 i).hi = (gD q.r i).sp.hi
 let y12 := (1 : Nat) <= y2 /\ y2 <= (1000 : Nat)
 let y13 := (0 : Nat) = (0 : Nat)
 let y14 : Desk := AQ (NetL.mk y1 y6)
 let y15 : List Way := y14.all
 let y16 := y15.length
 let y17 (i : Nat) : Way := gD y15 i
 let y18 : List Way := AC y16 λ (i : Nat) => y17 i
 let y19 := y18.length
 let y20 := y19 = y16
 let y21 := y14.out
 let y22 := y14.nR
 let y23 (i : Nat) : Way := gD y18 i
 let y24 (i : Nat) : Span := (y23 i).sp
 let y25 (i : Nat) : Span := (y17 i).sp
 let y26 : Desk := Desk.mk y18 y21 y22
 let y27 : Option Desk := BY y26
 let y28 : Desk := y27.getD default
 let y29 : List Way := y28.all
 let y30 := y29.length
 let y31 (i : Nat) : Way := gD y29 i
 let y32 : List Way := AC y30 λ (i : Nat) => y31 i
 let y33 := y32.length
 let y34 := y33 = y30
 let y35 := y28.out
 let y36 := (↑y35 : Int) = (↑y35 : Int)
 let y37 := y28.nR
 let y38 := (↑y37 : Int) = (↑y37 : Int)
 let y39 (i : Nat) : Way := gD y32 i
 let y40 (i : Nat) := (y39 i).fr
 let y41 (i : Nat) := (y31 i).fr
 let y42 (i : Nat) := (y39 i).to
 let y43 (i : Nat) := (y31 i).to
 let y44 (i : Nat) : Span := (y39 i).sp
 let y45 (i : Nat) := (y44 i).lo
 let y46 (i : Nat) : Span := (y31 i).sp
 let y47 (i : Nat) := (y46 i).lo
 let y48 (i : Nat) := (y44 i).hi
 let y49 (i : Nat) := (y46 i).hi
 let y50 (i : Nat) := (y39 i).now
 let y51 (i : Nat) := (y31 i).now
 let y52 := y30 = y33
 let y53 : TruthL := AP (Desk.mk y32 y35 y37)
 let y54 : List Int := y53.f
 let y55 : List Int := AC y37 λ (i : Nat) => gD y54 i
 let y56 := y55.length
 let y57 (j : Nat) := (0 : Nat) + j
 let y58 : List Int := y53.t
 let y59 : List Int := AC y35 λ (i : Nat) => gD y58 i
 let y60 := y59.length
 (((∀ (i : Nat), i < N.g.length -> True) /\ ∀ (i : Nat), i < N.r.length -> True) /\ bif y0 != (0 : Int) then Value.pointer none = Value.pointer none /\ Int.ofNat (0 : Nat) =
 Int.ofNat (0 : Nat) /\ AD N = y0 else (y3 /\ y5 /\ y8 /\ y11 /\ y12 /\ y7.le (1000 : Nat)) /\ (y13 /\ y20 /\ (↑y21 : Int) = (↑y21 : Int) /\ (↑y22 :
 Int) = (↑y22 : Int) /\ y20 /\ (∀ (i : Nat), i < y19 -> (y23 i).fr = (y17 i).fr /\ (y23 i).to = (y17 i).to /\ (y24 i).lo = (y25 i).lo /\ (y24 i).hi = (y25 i).hi /\ (y23 i).now = (y17 i).now) /\ y26.ok /\ y27.isSome = true) /\ (y13 /\ y34 /\ y36 /\ y38 /\ y34 /\ (∀ (i : Nat), i < y33 -> y40 i = y41 i /\ y42 i = y43 i /\ y45 i = y47 i /\ y48 i = y49 i /\ y50 i = y51 i) /\ y13 /\ y52 /\ y36 /\ y38 /\ y52 /\ (∀ (i : Nat), i < y30 -> y41 i = y40 i /\
 y43 i = y42 i /\ y47 i = y45 i /\ y49 i = y48 i /\ y51 i = y50 i) /\ ((1 : Nat) <= y35 /\ y33 <= (1000 : Nat)) /\ y37 + y35 <= y33 /\ y3 /\ y5 /\ y8 /\ y11 /\ y56 = y37 /\ (0 : Nat) + y37 <= y37 /\ (∀ (j : Nat), j < y56 -> gD y55 j = gD y54 (y57 j)) /\ y60 = y35 /\ (0 : Nat) + y35 <=
 y35 /\ (∀ (j : Nat), j < y60 -> gD y59 j = gD y58 (y57 j)) /\ y12 /\ y7 <= (1000 : Nat) /\ y56 = y7 /\ y60 = y2) /\ False)) := by kernel_rfl
theorem QV (N : NetL) : EM (Net.mk N.g.length (λ (i : Nat) => gD N.g i) N.r.length (λ (i : Nat) => gD N.r i)) = AD N := rfl
theorem Kj (d : Desk) : AC d.nR (λ i => gD (AP d).f i) = (AP d).f := by
 have : d.nR = (AP d).f.length := by simp [AP]
 conv => lhs; rw [this]
 exact MM _
theorem Kg (d : Desk) : AC d.out (λ i => gD (AP d).t i) = (AP d).t := by
 have : d.out = (AP d).t.length := by simp [AP]
 conv => lhs; rw [this]
 exact MM _
theorem LF (d : Desk) : (AP d).f.length = d.nR := by simp [AP]
theorem KY (d : Desk) : (AP d).t.length = d.out := by simp [AP]
theorem p55 (N : NetL) (h1 : AD N = 0) (h2 : (AT N).isSome = true) : V55 N := by
 obtain ⟨e1, e2⟩ := WA h2
 obtain ⟨l1, l2, l3⟩ := IZ h2
 have hg := DD h1
 have hb := UP hg
 have := hg.g1
 have := hg.g8
 have := hg.r14
 rw [Zt]; (conv => zeta); simp only [CC, eq_self, implies_true, forall_const, DL.d6, DL.d7, DL.d8, QV, h1, Kj, Kg, LF, KY, e1, Option.getD_some, bne_self_eq_false, Bool.false_eq_true, false_implies]
 rw [l1, l2, l3, e2]
 exact ⟨⟨⟨by omega, by omega⟩, by omega⟩, ⟨hb, rfl⟩, ⟨⟨by omega, by omega⟩, Nat.le_refl _, Nat.le_refl _, Nat.le_refl _, ⟨by omega, by omega⟩, by omega, rfl, rfl⟩, rfl⟩
theorem Ze (N : NetL) (h1 : AD N ≠ 0) : Xs N := by
 have hn : (AD N != 0) = true := by simpa using h1
 rw [Wz]; (conv => zeta); simp only [CC, eq_self, implies_true, forall_const, DL.d6, DL.d7, DL.d8, QV, hn, Bool.true_eq_false, false_implies]
def Wv : Sym.Spec := C55.spec XP
def St : Sym.Spec := C55b.spec XP
theorem Rn : Er Try.prog A55.Γ := AB Ul (AB Vr (AB Wh (AB Rj (AB Yi AH))))
theorem Mc : AL Try.prog 55 Wv := JC C55 (λ _ => A55) [(0, 5016), (1, 5017)] [] Try.func55 (λ _ => by kernel_rfl) (λ _ => Rn) (λ N h => p55 N h.1 h.2) (λ _ => KF rfl rfl) _
theorem Ru : AL Try.prog 55 St := JC C55b (λ _ => A55) [] [] Try.func55 (λ _ => by kernel_rfl) (λ _ => Rn) (λ N h => Ze N h) (λ _ => KF rfl rfl) _
theorem Ai : ∀ {k : Nat} {d d' : Desk}, d.ok -> DW k d = some d' -> d'.ok
 | 0, _, _, _, h => by cases h
 | k + 1, d, d', hd, h => by
  simp only [DW] at h
  split at h
  ·cases h; exact hd
  ·split at h
   ·cases h
   ·rename_i d1 hd1
    refine Ai ?_ h
    unfold GN at hd1
    simp only at hd1
    split at hd1
    ·cases hd1
    split at hd1
    ·cases hd1
    split at hd1
    ·cases hd1
    rename_i hm
    cases hd1
    unfold JT at hm
    split at hm
    ·cases hm
    ·split at hm
     ·cases hm; exact Dn hd _ _
     ·cases hm
theorem Eu {N : NetL} (h1 : AD N = 0) (h2 : (AT N).isSome = true) : (AA N).ok := Ai (UP (DD h1)) (WA h2).1
end Go.Bal
