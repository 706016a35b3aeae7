/- Package balance: copied, span, settled, fitting. -/
import Derived.Test.YtonddbmhljelgaaBalI
set_option linter.unusedVariables false
set_option linter.unusedSimpArgs false
namespace Go.Bal
open Go Go.Sym Go.Proofs
structure NW where
 n : Nat
 g : Nat -> Way
def rowW (n : Nat) (g : Nat -> Way) : AObj := .row 5 n λ i => KE (g i)
def A100 : Ann := { ann 8 [] with E := [100], mt := λ id => id == 3 }
def C100 : Ctr := { ro := [100], α := NW, xs := λ a => [.own 100 5 0 a.n], L := λ a => [(100, rowW a.n a.g)], val := λ a => .own 0 5 0 a.n, keep := λ a => [(100, .live (rowW a.n a.g)), (0, .live (rowW a.n a.g))], pre := λ a => [0 < a.n /\ a.n <= 1000] }
def d100 : List AVal -> Heap -> Option (NW × List (Nat × Nat) × List Nat)
 | [.own id _ _ n], H => match H id with
  | .live (.row _ _ get) => some (⟨n, λ i => IT (get i)⟩, [(100, id)], [])
  | _ => none
 | _, _ => none
def V100 (a : NW) : Prop := BC Try.prog A100 Try.f100 (AH Try.f100) (C100.xs a) (AE (C100.L a)) (C100.val a) (C100.keep a) [(0, 4032)] []
theorem ACJ (a : NW) : (V100 a) = (((0 = 0 /\ (0 < 0 -> 5 = 5)) /\ (0 + a.n <= a.n /\ (0 < a.n -> 5 = 5)) /\ (false = true -> 0 < a.n) /\ 0 + a.n <= 9223372036854775807 /\ (0 + a.n) * 40 <= 140737488355328) /\ 0 = 0 /\ a.n = 0 + a.n
 /\ a.n = a.n /\ (∀ (i : Nat), i < a.n -> (a.g i).fr = (a.g i).fr /\ (a.g i).to = (a.g i).to /\ (a.g i).sp.lo = (a.g i).sp.lo /\ (a.g i).sp.hi = (a.g i).sp.hi /\ (a.g i).now = (a.g i).now) /\ a.n = 0 + a.n /\ ∀ (i : Nat), i < a.n
 -> (a.g i).fr = (a.g (0 + (i - 0))).fr /\ (a.g i).to = (a.g (0 + (i - 0))).to /\ (a.g i).sp.lo = (a.g (0 + (i - 0))).sp.lo /\ (a.g i).sp.hi = (a.g (0 + (i - 0))).sp.hi /\ (a.g i).now = (a.g (0 + (i - 0))).now) := by
 kernel_rfl
theorem p100 (a : NW) (h : 0 < a.n /\ a.n <= 1000) : V100 a := by
 rw [ACJ]; simp only [CC, eq_self, implies_true, forall_const]
 exact ⟨⟨Nat.le_refl _, λ _ => h.1, by omega, by omega⟩, λ _ _ => ⟨rfl, rfl, rfl, rfl, rfl⟩⟩
theorem ABU : AI Try.prog 100 (C100.spec d100) := HQ C100 (λ _ => A100) [(0, 4032)] [] Try.func100 (λ _ => by kernel_rfl) (λ _ => AF) p100 (λ _ => IL rfl rfl) _
def A75 : Ann := { ann 21 [(100, C100.spec d100)] with E := [100, 101] }
def C75 : Ctr := { ro := [100, 101], α := Desk, xs := λ _ => [.bptr 100 0], L := KR, val := λ _ => .bptr 0 0, keep := λ d => LF d ++ [(0, .live (VQ d 1)), (1, .live (VT d))], pre := λ d => [0 < d.all.length /\ d.all.length <= 1000] }
def V75 (d : Desk) : Prop := BC Try.prog A75 Try.f75 (AH Try.f75) (C75.xs d) (AE (C75.L d)) (C75.val d) (C75.keep d) [(0, 2272), (1, 2080)] []
theorem vc75 (d : Desk) : (V75 d) = ((0 = 0 /\ d.all.length = d.all.length /\ d.all.length = d.all.length /\ (∀ (i : Nat), i < d.all.length -> (gD d.all i).fr = (gD d.all i).fr /\ (gD d.all i).to = (gD d.all i).to /\ (gD d.all
 i).sp.lo = (gD d.all i).sp.lo /\ (gD d.all i).sp.hi = (gD d.all i).sp.hi /\ (gD d.all i).now = (gD d.all i).now) /\ d.all.length = d.all.length /\ (∀ (i : Nat), i < d.all.length -> (gD d.all i).fr = (gD d.all i).fr /\ (gD
 d.all i).to = (gD d.all i).to /\ (gD d.all i).sp.lo = (gD d.all i).sp.lo /\ (gD d.all i).sp.hi = (gD d.all i).sp.hi /\ (gD d.all i).now = (gD d.all i).now) /\ 0 < d.all.length /\ d.all.length <= 1000) /\ 0 = 0 /\ d.all.length =
 d.all.length /\ (↑d.out : Int) = (↑d.out : Int) /\ (↑d.nR : Int) = (↑d.nR : Int) /\ d.all.length = d.all.length /\ (∀ (i : Nat), i < d.all.length -> (gD d.all i).fr = (gD d.all i).fr /\ (gD d.all i).to = (gD d.all i).to /\ (gD
 d.all i).sp.lo = (gD d.all i).sp.lo /\ (gD d.all i).sp.hi = (gD d.all i).sp.hi /\ (gD d.all i).now = (gD d.all i).now) /\ 0 = 0 /\ d.all.length = d.all.length /\ (↑d.out : Int) = (↑d.out : Int) /\ (↑d.nR : Int) = (↑d.nR : Int)
 /\ d.all.length = d.all.length /\ ∀ (i : Nat), i < d.all.length -> (gD d.all i).fr = (gD d.all i).fr /\ (gD d.all i).to = (gD d.all i).to /\ (gD d.all i).sp.lo = (gD d.all i).sp.lo /\ (gD d.all i).sp.hi = (gD d.all i).sp.hi /\
 (gD d.all i).now = (gD d.all i).now) := by kernel_rfl
theorem p75 (d : Desk) (h : 0 < d.all.length /\ d.all.length <= 1000) : V75 d := by
 rw [vc75]; simp only [CC, eq_self, implies_true, forall_const]
 exact h
theorem ok75 : AI Try.prog 75 (C75.spec OM) := HQ C75 (λ _ => A75) [(0, 2272), (1, 2080)] [] Try.func75 (λ _ => by kernel_rfl) (λ _ => AA ABU AF) p75 (λ _ => IL rfl rfl) _
structure DI where
 d : Desk
 at' : Int
def dDI : List AVal -> Heap -> Option (DI × List (Nat × Nat) × List Nat)
 | [.bptr id _, .d (.v (.int _ q))], H => match JF H id with
  | some (d, r) => some (⟨d, q⟩, [(100, id), (101, r)], [])
  | none => none
 | _, _ => none
def A74 : Ann := { ann 36 [(75, C75.spec OM), (77, C77.spec d77)] with E := [100, 101] }
def C74 : Ctr := { ro := [100, 101], α := DI, xs := λ a => [.bptr 100 0, .int a.at'], L := λ a => KR a.d, val := λ a => .d (EU ((CX a.d a.at').getD default)), keep := λ a => LF a.d, pre := λ a => [a.d.ok, 0 <= a.at' /\ a.at' < a.d.all.length, (CX a.d a.at').isSome = true] }
def V74 (a : DI) : Prop := BC Try.prog A74 Try.f74 (AH Try.f74) (C74.xs a) (AE (C74.L a)) (C74.val a) (C74.keep a) [] []
theorem vc74 (a : DI) : (V74 a) = (let q := a
 let y0 := (0 : Nat) = (0 : Nat)
 let y1 : List Way := AD q.d.all.length λ (i : Nat) => gD q.d.all i
 let y2 := y1.length
 let y3 := y2 = q.d.all.length
 let y4 := (↑q.d.out : Int) = (↑q.d.out : Int)
 let y5 := (↑q.d.nR : Int) = (↑q.d.nR : Int)
 let y6 (i : Nat) : Way := gD y1 i
 let y7 (i : Nat) := (y6 i).fr
 let y8 (i : Nat) := (y6 i).to
 let y9 (i : Nat) : Span := (y6 i).sp
 let y10 (i : Nat) := (y9 i).lo
 let y11 (i : Nat) := (y9 i).hi
 let y12 (i : Nat) := (y6 i).now
 let y13 := ∀ (i : Nat), i < y2 -> y7 i = (gD q.d.all i).fr /\ y8 i = (gD q.d.all i).to /\ y10 i = (gD q.d.all i).sp.lo /\ y11 i = (gD q.d.all i).sp.hi /\ y12 i = (gD q.d.all i).now
 let y14 := q.d.all.length = y2
 let y15 := ∀ (i : Nat), i < q.d.all.length -> (gD q.d.all i).fr = y7 i /\ (gD q.d.all i).to = y8 i /\ (gD q.d.all i).sp.lo = y10 i /\ (gD q.d.all i).sp.hi = y11 i /\ (gD q.d.all i).now = y12 i
 let y16 := (0 : Nat) < y2 /\ y2 <= (1000 : Nat)
 let y17 := (100000000 : Int) = Int.ofNat (100000000 : Nat)
 let y18 : List Way := AD y2 λ (i : Nat) => y6 i
 let y19 := y18.length
 let y20 := y19 = y2
 let y21 (i : Nat) : Way := gD y18 i
 let y22 (i : Nat) : Span := (y21 i).sp
 let y23 := ∀ (i : Nat), i < y19 -> (y21 i).fr = y7 i /\ (y21 i).to = y8 i /\ (y22 i).lo = y10 i /\ (y22 i).hi = y11 i /\ (y21 i).now = y12 i
 let y24 : Desk := Desk.mk y18 q.d.out q.d.nR
 let y25 := y24.ok
 let y26 := (0 : Int) <= q.at'
 let y27 := y26 /\ q.at' < (↑y19 : Int)
 let y28 : List Way := (SA.mk y24 q.at' false (100000000 : Int)).res.fst.all
 let y29 := y28.length
 let y30 := (0 : Nat) + q.at'.toNat
 let y31 : List Way := (SA.mk y24 q.at' true (100000000 : Int)).res.fst.all
 let y32 := y31.length
 let y33 : Span := (CX q.d q.at').getD default
 let y34 := q.d.all.length = q.d.all.length
 ((y0 /\ y3 /\ y4 /\ y5 /\ y3 /\ y13 /\ y0 /\ y14 /\ y4 /\ y5 /\ y14 /\ y15 /\ y16 /\ y0 /\ y3 /\ y4 /\ y5 /\ y3 /\
 y13 /\ y0 /\ y14 /\ y4 /\ y5 /\ y14 /\ y15 /\ y16) /\ (a.at' = a.at' /\ false = false /\ y17 /\ y0 /\ y20 /\ y4 /\ y5 /\ y20 /\ y23 /\ y25 /\ y27 /\ (HT
 y24 a.at' false (100000000 : Int)).isSome = true) /\ (a.at' = a.at' /\ true = true /\ y17 /\ y0 /\ y20 /\ y4 /\ y5 /\ y20 /\ y23 /\ y25 /\ y27 /\ (HT y24 a.at' true
 (100000000 : Int)).isSome = true) /\ ((y26 /\ a.at' < (↑y29 : Int)) /\ y30 < y29 /\ (y26 /\ a.at' < (↑y32 : Int)) /\ y30.succ.le y32) /\ y33.lo = (gD y28 y30).now /\ y33.hi = (gD y31 y30).now /\ y0 /\ y34 /\ y4 /\ y5 /\ y34 /\ ∀ (i : Nat), i < a.d.all.length -> (gD a.d.all i).fr = (gD a.d.all i).fr /\ (gD a.d.all i).to = (gD a.d.all i).to
 /\ (gD a.d.all i).sp.lo = (gD a.d.all i).sp.lo /\ (gD a.d.all i).sp.hi = (gD a.d.all i).sp.hi /\ (gD a.d.all i).now = (gD a.d.all i).now)) := by kernel_rfl
theorem Ep {d d' : Desk} {fr to most q : Int} {m : Map} (h : LJ d fr to m most = some (d', q)) : d'.all.length = d.all.length /\ d'.out = d.out /\ d'.nR = d.nR := by
 unfold LJ at h
 split at h
 ·cases h
 ·split at h
  ·cases h; exact ⟨BQ _ _ _, rfl, rfl⟩
  ·cases h
theorem PJ {at' : Int} {up : Bool} {most : Int} : ∀ {k : Nat} {d d' : Desk} {t t' : Int}, JZ at' up most k d t = some (d', t') -> d'.all.length = d.all.length /\ d'.out = d.out /\ d'.nR = d.nR
 | 0, _, _, _, _, h => by cases h
 | k + 1, d, d', t, t', h => by
  simp only [JZ] at h
  split at h
  ·split at h
   ·cases h
   ·split at h
    ·cases h; exact ⟨rfl, rfl, rfl⟩
    ·split at h
     ·cases h
     ·rename_i hm
      have h1 := Ep hm
      have h2 := PJ h
      rw [MH] at h2
      exact ⟨h2.1.trans h1.1, h2.2.1.trans h1.2.1, h2.2.2.trans h1.2.2⟩
  ·cases h; exact ⟨rfl, rfl, rfl⟩
theorem p74 (a : DI) (hd : a.d.ok) (hat : 0 <= a.at' /\ a.at' < a.d.all.length) (hr : (CX a.d a.at').isSome = true) : V74 a := by
 rw [vc74]; (conv => zeta); simp only [CC, eq_self, implies_true, forall_const]
 have hlen := hd.len
 unfold CX at hr ⊢
 split at hr
 ·rename_i l tl h hh e1 e2
  have r1 : (SA.mk a.d a.at' false 100000000).res = (l, tl) := by unfold SA.res; simp only; rw [e1]; rfl
  have r2 : (SA.mk a.d a.at' true 100000000).res = (h, hh) := by unfold SA.res; simp only; rw [e2]; rfl
  have l1 := (PJ e1).1
  have l2 := (PJ e2).1
  have r1' : (SA.mk ⟨a.d.all, a.d.out, a.d.nR⟩ a.at' false 100000000).res = (l, tl) := r1
  have r2' : (SA.mk ⟨a.d.all, a.d.out, a.d.nR⟩ a.at' true 100000000).res = (h, hh) := r2
  have e1' : HT ⟨a.d.all, a.d.out, a.d.nR⟩ a.at' false 100000000 = some (l, tl) := e1
  have e2' : HT ⟨a.d.all, a.d.out, a.d.nR⟩ a.at' true 100000000 = some (h, hh) := e2
  rw [r1', r2', e1, e2]
  simp only
  rw [l1, l2]
  exact ⟨⟨by omega, by omega⟩, ⟨rfl, hd, hat, rfl⟩, ⟨rfl, hd, hat, rfl⟩, ⟨hat, by omega, hat, by omega⟩, rfl, rfl⟩
 ·cases hr
theorem Zu : AI Try.prog 74 (C74.spec dDI) := HQ C74 (λ _ => A74) [] [] Try.func74 (λ _ => by kernel_rfl) (λ _ => AA ok75 (AA ok77 AF)) (λ a h => p74 a h.1 h.2.1 h.2.2) (λ _ => IL rfl rfl) _
end Go.Bal

namespace Go.Bal
open Go Go.Sym Go.Proofs
def PS (N : NetL) : Net := ⟨N.g.length, λ i => gD N.g i, N.r.length, λ i => gD N.r i⟩
def AC (N : NetL) : Int := DE (PS N)
def AB (N : NetL) : Desk := ((AO N).getD default).1
def BK (N : NetL) : Int := ((AO N).getD default).2
def nilP : AVal := .d (.v (.pointer none))
theorem BI {a b c : Int} : inM a b c = true ↔ b <= a /\ a <= c := by simp [inM]
theorem YB {s : Span} : CJ s = true ↔ (-1000000 <= s.lo /\ s.lo <= s.hi) /\ s.hi <= 1000000 := by
 unfold CJ; simp only [Bool.and_eq_true, BI]; omega
theorem ZI {e : Nat -> Int} : ∀ {n k : Nat}, GE e n k = 0 -> ∀ i, k <= i -> i < k + n -> e i = 0
 | 0, k, _, i, h1, h2 => by omega
 | n + 1, k, h, i, h1, h2 => by
  simp only [GE] at h
  by_cases he : e k = 0
  ·rw [if_pos he] at h
   by_cases hi : i = k
   ·subst hi; exact he
   ·exact ZI h i (by omega) (by omega)
  ·rw [if_neg he] at h; exact absurd h he
structure Good (N : NetL) : Prop where
 g1 : 1 <= N.g.length
 g8 : N.g.length <= 8
 r14 : N.r.length <= 14
 g : ∀ i, i < N.g.length -> (-1000000 <= (gD N.g i).lo /\ (gD N.g i).lo <= (gD N.g i).hi) /\ (gD N.g i).hi <= 1000000
 r : ∀ i, i < N.r.length -> ((-1000000 <= (gD N.r i).sp.lo /\ (gD N.r i).sp.lo <= (gD N.r i).sp.hi) /\ (gD N.r i).sp.hi <= 1000000) /\ (0 <= (gD N.r i).fr /\ (gD N.r i).fr < N.g.length) /\ (0 <= (gD N.r i).to /\ (gD N.r i).to < N.g.length) /\ (gD N.r i).fr ≠ (gD N.r i).to
theorem AS {N : NetL} (h : AC N = 0) : Good N := by
 unfold AC DE at h
 split at h
 ·cases h
 rename_i h1
 split at h
 case isFalse => cases h
 rename_i h2
 have h1 : inM (PS N).nG 1 8 = true /\ ¬ 14 < (PS N).nR := by
  simp only [Bool.or_eq_true, Bool.not_eq_true', decide_eq_true_eq, not_or, Bool.not_eq_false] at h1; exact h1
 have h3 := BI.1 h1.1
 have hg : (PS N).nG = N.g.length := rfl
 have hr : (PS N).nR = N.r.length := rfl
 rw [hg] at h3
 have h14 := h1.2
 rw [hr] at h14
 refine ⟨by omega, by omega, by omega, λ i hi => YB.1 (ET.1 h2 i hi), λ i hi => ?_⟩
 have := ZI h i (Nat.zero_le _) (by rw [hr]; omega)
 unfold NF at this
 split at this
 ·cases this
 rename_i h4
 split at this
 ·rename_i h5
  have h4 : (inM (gD N.r i).fr 0 ((PS N).nG - 1) = true /\ inM (gD N.r i).to 0 ((PS N).nG - 1) = true) /\ ¬ (gD N.r i).fr = (gD N.r i).to := by
   simp only [Bool.or_eq_true, Bool.not_eq_true', decide_eq_true_eq, not_or, Bool.not_eq_false] at h4; exact h4
  have h6 := BI.1 h4.1.1
  have h7 := BI.1 h4.1.2
  rw [hg] at h6 h7
  exact ⟨YB.1 h5, by omega, by omega, h4.2⟩
 ·cases this
theorem WR {N : NetL} (h : Good N) : (AJ N).ok := by
 have h1 := h.g1
 have h8 := h.g8
 have h14 := h.r14
 refine ⟨h.g8, by rw [BJ]; omega, ?_, λ i hi => ?_⟩
 ·rw [BJ]; exact Nat.le_refl _
 ·rw [BJ] at hi
  rw [DK, JB _ (by rw [EM]; exact hi)]
  show (0 <= (gD (AG N) i).fr /\ (gD (AG N) i).fr < ((N.g.length : Nat) : Int) + 2) /\ 0 <= (gD (AG N) i).to /\ (gD (AG N) i).to < ((N.g.length : Nat) : Int) + 2
  by_cases hr : i < N.r.length
  ·rw [NO hr]
   obtain ⟨_, h2, h3, _⟩ := h.r i hr
   exact ⟨⟨h2.1, by show (gD N.r i).fr < _; omega⟩, h3.1, by show (gD N.r i).to < _; omega⟩
  ·obtain ⟨j, rfl⟩ : ∃ j, i = N.r.length + j := ⟨i - N.r.length, by omega⟩
   rw [NS (by omega)]
   exact ⟨⟨by simp, by show ((N.g.length : Nat) : Int) < _; omega⟩, by simp, by show ((j : Nat) : Int) < _; omega⟩
def ABO (d d' : Desk) : Prop := d'.all.length = d.all.length /\ d'.out = d.out /\ d'.nR = d.nR
theorem RK : ∀ {k : Nat} {d d' : Desk}, EQ k d = some d' -> ABO d d'
 | 0, _, _, h => by cases h
 | k + 1, d, d', h => by
  simp only [EQ] at h
  split at h
  ·cases h; exact ⟨rfl, rfl, rfl⟩
  ·split at h
   ·cases h
   ·rename_i d1 hd1
    have h2 := RK h
    unfold GZ at hd1
    simp only at hd1
    split at hd1
    ·cases hd1
    split at hd1
    ·cases hd1
    split at hd1
    ·cases hd1
    rename_i hm
    cases hd1
    have h1 := Ep hm
    exact ⟨h2.1.trans h1.1, h2.2.1.trans h1.2.1, h2.2.2.trans h1.2.2⟩
theorem XY {N : NetL} (h : (AO N).isSome = true) : CG (AJ N) = some (AB N) /\ BK N = EW N (AL (AB N)) := by
 unfold AB BK
 unfold AO at h ⊢
 split at h
 ·cases h
 ·rename_i d hd
  rw [hd]; exact ⟨rfl, rfl⟩
theorem GP {N : NetL} (h : (AO N).isSome = true) : (AB N).all.length = N.r.length + N.g.length /\ (AB N).out = N.g.length /\ (AB N).nR = N.r.length := by
 have h1 := RK (XY h).1
 exact ⟨h1.1.trans (BJ N), h1.2.1, h1.2.2⟩
def A55 : Ann := ann 21 [(44, s44), (67, C67.spec QO), (68, C68.spec OM), (56, C56.spec OM), (70, C70.spec d70)]
def C55 : Ctr := { α := NetL, xs := λ N => [.d (EI N)], L := λ _ => [], val := λ N => .tup [.bptr 0 0, .int (BK N), .int 0], keep := λ N => [(0, .live (VQ (AB N) 1)), (1, .live (VT (AB N)))], pre := λ N => [AC N = 0, (AO N).isSome = true] }
def V55 (N : NetL) : Prop := BC Try.prog A55 Try.f55 (AH Try.f55) (C55.xs N) (AE (C55.L N)) (C55.val N) (C55.keep N) [(0, 5016), (1, 5017)] []
theorem vc55 (N : NetL) : (V55 N) = (let q := N
 let y0 : List Span := AD q.g.length λ (i : Nat) => gD q.g i
 let y1 := y0.length
 let y2 := y1 = q.g.length
 let y3 (i : Nat) : Span := gD y0 i
 let y4 := ∀ (i : Nat), i < y1 -> (y3 i).lo = (gD q.g i).lo /\ (y3 i).hi = (gD q.g i).hi
 let y5 : List Reach := AD q.r.length λ (i : Nat) => gD q.r i
 let y6 := y5.length
 let y7 := y6 = q.r.length
 let y8 (i : Nat) : Reach := gD y5 i
 let y9 (i : Nat) : Span := (y8 i).sp
 let y10 := ∀ (i : Nat), i < y6 -> (y8 i).fr = (gD q.r i).fr /\ (y8 i).to = (gD q.r i).to /\ (y9 i).lo = (gD q.r i).sp.lo /\ (y9 i).hi = (gD q.r i).sp.hi
 let y11 := (1 : Nat) <= y1 /\ y1 <= (1000 : Nat)
 let y12 := (0 : Nat) = (0 : Nat)
 let y13 : NetL := NetL.mk y0 y5
 let y14 : Desk := AJ y13
 let y15 : List Way := y14.all
 let y16 := y15.length
 let y17 (i : Nat) : Way := gD y15 i
 let y18 : List Way := AD y16 λ (i : Nat) => y17 i
 let y19 := y18.length
 let y20 := y19 = y16
 let y21 := y14.out
 let y22 := y14.nR
 let y23 (i : Nat) : Way := gD y18 i
 let y24 (i : Nat) : Span := (y23 i).sp
 let y25 (i : Nat) : Span := (y17 i).sp
 let y26 : Desk := Desk.mk y18 y21 y22
 let y27 : Option Desk := CG y26
 let y28 : Desk := y27.getD default
 let y29 : List Way := y28.all
 let y30 := y29.length
 let y31 (i : Nat) : Way := gD y29 i
 let y32 : List Way := AD y30 λ (i : Nat) => y31 i
 let y33 := y32.length
 let y34 := y33 = y30
 let y35 := y28.out
 let y36 := (↑y35 : Int) = (↑y35 : Int)
 let y37 := y28.nR
 let y38 := (↑y37 : Int) = (↑y37 : Int)
 let y39 (i : Nat) : Way := gD y32 i
 let y40 (i : Nat) := (y39 i).fr
 let y41 (i : Nat) := (y31 i).fr
 let y42 (i : Nat) := (y39 i).to
 let y43 (i : Nat) := (y31 i).to
 let y44 (i : Nat) : Span := (y39 i).sp
 let y45 (i : Nat) := (y44 i).lo
 let y46 (i : Nat) : Span := (y31 i).sp
 let y47 (i : Nat) := (y46 i).lo
 let y48 (i : Nat) := (y44 i).hi
 let y49 (i : Nat) := (y46 i).hi
 let y50 (i : Nat) := (y39 i).now
 let y51 (i : Nat) := (y31 i).now
 let y52 := y30 = y33
 let y53 : TruthL := AL (Desk.mk y32 y35 y37)
 let y54 : List Int := y53.f
 let y55 : List Int := AD y37 λ (i : Nat) => gD y54 i
 let y56 := y55.length
 let y57 (j : Nat) := (0 : Nat) + j
 let y58 : List Int := y53.t
 let y59 : List Int := AD y35 λ (i : Nat) => gD y58 i
 let y60 := y59.length
 let y61 := (AB q).all.length = y30
 (((∀ (i : Nat), i < N.g.length -> True) /\ ∀ (i : Nat), i < N.r.length -> True) /\ bif DE (Net.mk N.g.length (λ (i : Nat) => gD N.g i) N.r.length λ (i : Nat) => gD N.r i) != (0 :
 Int) then False else (y2 /\ y4 /\ y7 /\ y10 /\ y11 /\ y6.le (1000 : Nat)) /\ (y12 /\ y20 /\ (↑y21 : Int) = (↑y21 : Int) /\ (↑y22 : Int) = (↑y22 : Int) /\ y20
 /\ (∀ (i : Nat), i < y19 -> (y23 i).fr = (y17 i).fr /\ (y23 i).to = (y17 i).to /\ (y24 i).lo = (y25 i).lo /\ (y24 i).hi = (y25 i).hi /\ (y23 i).now = (y17 i).now) /\
 y26.ok /\ y27.isSome = true) /\ (y12 /\ y34 /\ y36 /\ y38 /\ y34 /\ (∀ (i : Nat), i < y33 -> y40 i = y41 i /\ y42 i = y43 i /\ y45 i = y47 i /\ y48 i =
 y49 i /\ y50 i = y51 i) /\ y12 /\ y52 /\ y36 /\ y38 /\ y52 /\ (∀ (i : Nat), i < y30 -> y41 i = y40 i /\ y43 i = y42 i /\ y47 i = y45 i /\ y49 i = y48 i /\ y51 i = y50 i) /\ ((1 : Nat) <= y35 /\ y33 <= (1000 : Nat)) /\ y37 + y35 <= y33 /\ y2 /\ y4 /\ y7 /\ y10 /\ y56 = y37 /\ (0 : Nat) + y37 <= y37 /\ (∀ (j
 : Nat), j < y56 -> gD y55 j = gD y54 (y57 j)) /\ y60 = y35 /\ (0 : Nat) + y35 <= y35 /\ (∀ (j : Nat), j < y60 -> gD y59 j = gD y58 (y57 j)) /\ y11 /\ y6 <=
 (1000 : Nat) /\ y56 = y6 /\ y60 = y1) /\ BK N = EW y13 (TruthL.mk y55 y59) /\ Int.ofNat (0 : Nat) = Int.ofNat (0 : Nat) /\ y12 /\ y61 /\ (↑(AB N).out : Int) = (↑y35
 : Int) /\ (↑(AB N).nR : Int) = (↑y37 : Int) /\ y61 /\ ∀ (i : Nat), i < (AB N).all.length -> (gD (AB N).all i).fr = y41 i /\ (gD (AB N).all i).to = y43 i /\ (gD (AB N).all i).sp.lo = y47 i /\
 (gD (AB N).all i).sp.hi = y49 i /\ (gD (AB N).all i).now = y51 i)) := by kernel_rfl
def C55b : Ctr := { α := NetL, xs := λ N => [.d (EI N)], L := λ _ => [], val := λ N => .tup [nilP, .int 0, .int (AC N)], keep := λ N => [], pre := λ N => [AC N ≠ 0] }
def V55b (N : NetL) : Prop := BC Try.prog A55 Try.f55 (AH Try.f55) (C55b.xs N) (AE (C55b.L N)) (C55b.val N) (C55b.keep N) [] []
theorem ACB (N : NetL) : (V55b N) = (let q := N
 let y0 := DE (Net.mk q.g.length (λ (i : Nat) => gD q.g i) q.r.length λ (i : Nat) => gD q.r i)
 let y1 : List Span := AD q.g.length λ (i : Nat) => gD q.g i
 let y2 := y1.length
 let y3 := y2 = q.g.length
 let y4 (i : Nat) : Span := gD y1 i
 let y5 := ∀ (i : Nat), i < y2 -> (y4 i).lo = (gD q.g i).lo /\ (y4 i).hi = (gD q.g i).hi
 let y6 : List Reach := AD q.r.length λ (i : Nat) => gD q.r i
 let y7 := y6.length
 let y8 := y7 = q.r.length
 let y9 (i : Nat) : Reach := gD y6 i
 let y10 (i : Nat) : Span := (y9 i).sp
 let y11 := ∀ (i : Nat), i < y7 -> (y9 i).fr = (gD q.r i).fr /\ (y9 i).to = (gD q.r i).to /\ (y10 i).lo = (gD q.r i).sp.lo /\ (y10 i).hi = (gD q.r i).sp.hi
 let y12 := (1 : Nat) <= y2 /\ y2 <= (1000 : Nat)
 let y13 := (0 : Nat) = (0 : Nat)
 let y14 : Desk := AJ (NetL.mk y1 y6)
 let y15 : List Way := y14.all
 let y16 := y15.length
 let y17 (i : Nat) : Way := gD y15 i
 let y18 : List Way := AD y16 λ (i : Nat) => y17 i
 let y19 := y18.length
 let y20 := y19 = y16
 let y21 := y14.out
 let y22 := y14.nR
 let y23 (i : Nat) : Way := gD y18 i
 let y24 (i : Nat) : Span := (y23 i).sp
 let y25 (i : Nat) : Span := (y17 i).sp
 let y26 : Desk := Desk.mk y18 y21 y22
 let y27 : Option Desk := CG y26
 let y28 : Desk := y27.getD default
 let y29 : List Way := y28.all
 let y30 := y29.length
 let y31 (i : Nat) : Way := gD y29 i
 let y32 : List Way := AD y30 λ (i : Nat) => y31 i
 let y33 := y32.length
 let y34 := y33 = y30
 let y35 := y28.out
 let y36 := (↑y35 : Int) = (↑y35 : Int)
 let y37 := y28.nR
 let y38 := (↑y37 : Int) = (↑y37 : Int)
 let y39 (i : Nat) : Way := gD y32 i
 let y40 (i : Nat) := (y39 i).fr
 let y41 (i : Nat) := (y31 i).fr
 let y42 (i : Nat) := (y39 i).to
 let y43 (i : Nat) := (y31 i).to
 let y44 (i : Nat) : Span := (y39 i).sp
 let y45 (i : Nat) := (y44 i).lo
 let y46 (i : Nat) : Span := (y31 i).sp
 let y47 (i : Nat) := (y46 i).lo
 let y48 (i : Nat) := (y44 i).hi
 let y49 (i : Nat) := (y46 i).hi
 let y50 (i : Nat) := (y39 i).now
 let y51 (i : Nat) := (y31 i).now
 let y52 := y30 = y33
 let y53 : TruthL := AL (Desk.mk y32 y35 y37)
 let y54 : List Int := y53.f
 let y55 : List Int := AD y37 λ (i : Nat) => gD y54 i
 let y56 := y55.length
 let y57 (j : Nat) := (0 : Nat) + j
 let y58 : List Int := y53.t
 let y59 : List Int := AD y35 λ (i : Nat) => gD y58 i
 let y60 := y59.length
 (((∀ (i : Nat), i < N.g.length -> True) /\ ∀ (i : Nat), i < N.r.length -> True) /\ bif y0 != (0 : Int) then Value.pointer none = Value.pointer none /\ Int.ofNat (0 : Nat) =
 Int.ofNat (0 : Nat) /\ AC N = y0 else (y3 /\ y5 /\ y8 /\ y11 /\ y12 /\ y7.le (1000 : Nat)) /\ (y13 /\ y20 /\ (↑y21 : Int) = (↑y21 : Int) /\ (↑y22 :
 Int) = (↑y22 : Int) /\ y20 /\ (∀ (i : Nat), i < y19 -> (y23 i).fr = (y17 i).fr /\ (y23 i).to = (y17 i).to /\ (y24 i).lo = (y25 i).lo /\ (y24 i).hi = (y25 i).hi /\ (y23 i).now = (y17 i).now) /\ y26.ok /\ y27.isSome = true) /\ (y13 /\ y34 /\ y36 /\ y38 /\ y34 /\ (∀ (i : Nat), i < y33 -> y40 i = y41 i /\ y42 i = y43 i /\ y45 i = y47 i /\ y48 i = y49 i /\ y50 i = y51 i) /\ y13 /\ y52 /\ y36 /\ y38 /\ y52 /\ (∀ (i : Nat), i < y30 -> y41 i = y40 i /\
 y43 i = y42 i /\ y47 i = y45 i /\ y49 i = y48 i /\ y51 i = y50 i) /\ ((1 : Nat) <= y35 /\ y33 <= (1000 : Nat)) /\ y37 + y35 <= y33 /\ y3 /\ y5 /\ y8 /\ y11 /\ y56 = y37 /\ (0 : Nat) + y37 <= y37 /\ (∀ (j : Nat), j < y56 -> gD y55 j = gD y54 (y57 j)) /\ y60 = y35 /\ (0 : Nat) + y35 <=
 y35 /\ (∀ (j : Nat), j < y60 -> gD y59 j = gD y58 (y57 j)) /\ y12 /\ y7 <= (1000 : Nat) /\ y56 = y7 /\ y60 = y2) /\ False)) := by kernel_rfl
theorem JY (N : NetL) : DE (Net.mk N.g.length (λ (i : Nat) => gD N.g i) N.r.length (λ (i : Nat) => gD N.r i)) = AC N := rfl
theorem Pq (d : Desk) : AD d.nR (λ i => gD (AL d).f i) = (AL d).f := by
 have : d.nR = (AL d).f.length := by simp [AL]
 conv => lhs; rw [this]
 exact OI _
theorem Rk (d : Desk) : AD d.out (λ i => gD (AL d).t i) = (AL d).t := by
 have : d.out = (AL d).t.length := by simp [AL]
 conv => lhs; rw [this]
 exact OI _
theorem JD (d : Desk) : (AL d).f.length = d.nR := by simp [AL]
theorem IV (d : Desk) : (AL d).t.length = d.out := by simp [AL]
theorem p55 (N : NetL) (h1 : AC N = 0) (h2 : (AO N).isSome = true) : V55 N := by
 obtain ⟨e1, e2⟩ := XY h2
 obtain ⟨l1, l2, l3⟩ := GP h2
 have hg := AS h1
 have hb := WR hg
 have := hg.g1
 have := hg.g8
 have := hg.r14
 rw [vc55]; (conv => zeta); simp only [CC, eq_self, implies_true, forall_const, DL.d6, DL.d7, DL.d8, JY, h1, Pq, Rk, JD, IV, e1, Option.getD_some, bne_self_eq_false, Bool.false_eq_true, false_implies]
 rw [l1, l2, l3, e2]
 exact ⟨⟨⟨by omega, by omega⟩, by omega⟩, ⟨hb, rfl⟩, ⟨⟨by omega, by omega⟩, Nat.le_refl _, Nat.le_refl _, Nat.le_refl _, ⟨by omega, by omega⟩, by omega, rfl, rfl⟩, rfl⟩
theorem p55b (N : NetL) (h1 : AC N ≠ 0) : V55b N := by
 have hn : (AC N != 0) = true := by simpa using h1
 rw [ACB]; (conv => zeta); simp only [CC, eq_self, implies_true, forall_const, DL.d6, DL.d7, DL.d8, JY, hn, Bool.true_eq_false, false_implies]
def s55 : Sym.Spec := C55.spec QO
def Vp : Sym.Spec := C55b.spec QO
theorem AAD : Hq Try.prog A55.Γ := AA Jt (AA ok67 (AA ok68 (AA Ng (AA ok70 AF))))
theorem Lm : AI Try.prog 55 s55 := HQ C55 (λ _ => A55) [(0, 5016), (1, 5017)] [] Try.func55 (λ _ => by kernel_rfl) (λ _ => AAD) (λ N h => p55 N h.1 h.2) (λ _ => IL rfl rfl) _
theorem Kl : AI Try.prog 55 Vp := HQ C55b (λ _ => A55) [] [] Try.func55 (λ _ => by kernel_rfl) (λ _ => AAD) (λ N h => p55b N h) (λ _ => IL rfl rfl) _
theorem Ef : ∀ {k : Nat} {d d' : Desk}, d.ok -> EQ k d = some d' -> d'.ok
 | 0, _, _, _, h => by cases h
 | k + 1, d, d', hd, h => by
  simp only [EQ] at h
  split at h
  ·cases h; exact hd
  ·split at h
   ·cases h
   ·rename_i d1 hd1
    refine Ef ?_ h
    unfold GZ at hd1
    simp only at hd1
    split at hd1
    ·cases hd1
    split at hd1
    ·cases hd1
    split at hd1
    ·cases hd1
    rename_i hm
    cases hd1
    unfold LJ at hm
    split at hm
    ·cases hm
    ·split at hm
     ·cases hm; exact Iy hd _ _
     ·cases hm
theorem VW {N : NetL} (h1 : AC N = 0) (h2 : (AO N).isSome = true) : (AB N).ok := Ef (WR (AS h1)) (XY h2).1
end Go.Bal
