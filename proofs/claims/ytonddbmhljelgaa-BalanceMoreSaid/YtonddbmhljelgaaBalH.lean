/- Package balance: sum, begun, truth, cost. -/
import Derived.Test.YtonddbmhljelgaaBalG
set_option linter.unusedVariables false
set_option linter.unusedSimpArgs false
namespace Go.Bal
open Go Go.Sym Go.Proofs
def CV (l : List Int) : DVal := Pw 1 l.length λ i => CE (gD l i)
def DV (l : List Span) : DVal := Pw 2 l.length λ i => JU (gD l i)
def BS (l : List Reach) : DVal := Pw 4 l.length λ i => LG (gD l i)
def EZ (N : NetL) : DVal := .agg [DV N.g, BS N.r]
def HZ (T : TruthL) : DVal := .agg [CV T.f, CV T.t]
structure AK where
 acc : Int
 k : Nat
 deriving Inhabited
def A99 (l : List Int) : Ann := { ann 17 [] with loops := λ id => if id = 3 then some [{ α := AK, dflt := default, T := λ s => ⟨[(3, .int s.acc), (6, .d (CV l)), (7, .int l.length), (8, .int s.k)], []⟩, inv := λ s => s.k <= l.length /\ ES s.acc (l.drop s.k) = ES 0 l, meas := λ s => l.length - s.k }] else none }
def C99 : Ctr := { α := List Int, xs := λ l => [.d (CV l)], L := λ _ => [], val := λ l => .int (ES 0 l), keep := λ _ => [], pre := λ l => [l.length < 4611686018427387904] }
def d99 : List AVal -> Heap -> Option (List Int × List (Nat × Nat) × List Nat)
 | [.own id _ _ n], H => match H id with
  | .live (.row _ _ get) => some (AC n λ i => EW (get i), [], [id])
  | _ => none
 | [.d (.list _ n g _)], _ => some (AC n λ i => EW (g i), [], [])
 | _, _ => none
def V99 (l : List Int) : Prop := BM Try.prog (A99 l) Try.f99 (AJ Try.f99) (C99.xs l) (AE (C99.L l)) (C99.val l) (C99.keep l) [] []
theorem vc99 (l : List Int) : (V99 l) = ((∃ (a : AK), (a.acc = 0 /\ l.length = l.length /\ (∀ (i : Nat), i < l.length -> gD l i = gD l i) /\ (↑l.length : Int) = (↑l.length : Int) /\ (↑a.k : Int) = 0) /\ a.k <= l.length /\
 ES a.acc (List.drop a.k l) = ES 0 l) /\ ∀ (a : AK), a.k <= l.length /\ ES a.acc (List.drop a.k l) = ES 0 l -> bif decide ((↑a.k : Int) < (↑l.length : Int)) then (0 <= (↑a.k : Int) /\ (↑a.k : Int) <
 (↑l.length : Int)) /\ ∃ (a_2 : AK), (a_2.acc = IntKind.i64.wrap (a.acc + gD l a.k) /\ l.length = l.length /\ (∀ (i : Nat), i < l.length -> gD l i = gD l i) /\ (↑l.length : Int) = (↑l.length : Int) /\ (↑a_2.k : Int) =
 IntKind.i64.wrap ((↑a.k : Int) + 1)) /\ (a_2.k <= l.length /\ ES a_2.acc (List.drop a_2.k l) = ES 0 l) /\ l.length - a_2.k < l.length - a.k else ES 0 l = a.acc) := by kernel_rfl
theorem p99 (l : List Int) (h : l.length < 4611686018427387904) : V99 l := by
 rw [vc99]; simp only [CC, eq_self, implies_true, forall_const]
 refine ⟨⟨⟨0, 0⟩, ⟨rfl, rfl⟩, Nat.zero_le _, rfl⟩, λ s ⟨h1, h2⟩ => ⟨λ hlt => ⟨⟨by omega, hlt⟩, ⟨⟨wr (s.acc + gD l s.k), s.k + 1⟩, ⟨rfl, (BB (by omega)).symm⟩, ⟨by show s.k + 1 <= _; omega, ?_⟩, by show _ - (s.k + 1) < _; omega⟩⟩, λ hge => ?_⟩⟩
 ·rw [DX (by omega)] at h2; exact h2
 ·rw [List.drop_eq_nil_of_le (by omega)] at h2; exact h2.symm
theorem ok99 : AL Try.prog 99 (C99.spec d99) := JC C99 A99 [] [] Try.func99 (λ _ => by kernel_rfl) (λ _ => AH) p99 (λ _ => KF rfl rfl) _
def Tz (r : Nat) (n : Nat) (N : NetL) : HCell := .live (.box [.own r 5 0 n, .int N.g.length, .int N.r.length])
def Yq (N : NetL) : HCell := .live (.box [.d HX, .int N.g.length, .int N.r.length])
def Tm (n : Nat) (all : List Way) : HCell := .live (.row 5 n λ i => IX (gD all i))
def MW (N : NetL) : HCell := .live (.box [.d (DV N.g), .d (BS N.r)])
def VW (w : Way) : Way := { w with now := min (max 0 w.sp.lo) w.sp.hi }
def A67 (N : NetL) : Ann := { ann 102 [] with mt := λ id => id == 5 || id == 10, loops := λ id => if id = 3 then some [{ α := One, dflt := default, T := λ _ => ⟨[(1, .bptr 200 0), (3, .bptr 201 0), (20, .d (BS N.r)), (21, .int N.r.length), (22, .int 0)], [(200, MW N), (201, Yq N)]⟩, inv := λ _ => True, meas := λ _ => N.r.length, first := [(200, 1000), (201, 2128)] }, { α := Nat, dflt := 0, T := λ k => ⟨[(1, .bptr 200 0), (3, .bptr 201 0), (20, .d (BS N.r)), (21, .int N.r.length), (22, .int k)], [(200, MW N), (201, Tz 202 k N), (202, Tm k (AF N))]⟩, inv := λ k => k <= N.r.length, meas := λ k => N.r.length - k, again := [(202, 6224)] }] else if id = 8 then some [{ α := One, dflt := default, T := λ _ => ⟨[(3, .bptr 201 0), (46, .d (DV N.g)), (47, .int N.g.length), (48, .int 0)], [(201, Yq N)]⟩, inv := λ _ => N.r.length = 0, meas := λ _ => N.g.length }, { α := Nat, dflt := 0, T := λ k => ⟨[(3, .bptr 201 0), (46, .d (DV N.g)), (47, .int N.g.length), (48, .int k)], [(201, Tz 202 (N.r.length + k) N), (202, Tm (N.r.length + k) (AF N))]⟩, inv := λ k => k <= N.g.length, meas := λ k => N.g.length - k, again := [(202, 11240)] }] else if id = 13 then some [{ α := KW, dflt := default, T := λ s => ⟨[(3, .bptr 201 0), (77, .own 202 5 0 s.all.length), (78, .int s.all.length), (79, .int s.k)], [(201, Tz 202 s.all.length N), (202, Tm s.all.length s.all)]⟩, inv := λ s => s.k <= s.all.length /\ s.all.length = N.r.length + N.g.length /\ ∀ i, i < s.all.length -> gD s.all i = if i < s.k then VW (gD (AF N) i) else gD (AF N) i, meas := λ s => s.all.length - s.k }] else none }
def C67 : Ctr := { α := NetL, xs := λ N => [.d (EZ N)], L := λ _ => [], val := λ _ => .bptr 0 0, keep := λ N => [(0, .live (TY (AQ N) 1)), (1, .live (UE (AQ N)))], pre := λ N => [1 <= N.g.length /\ N.g.length <= 1000, N.r.length <= 1000] }
def LW : DVal -> Option NetL
 | .agg [.list _ n g _, .list _ m r _] => some ⟨AC n λ i => HH (g i), AC m λ i => ET (r i)⟩
 | _ => none
def XP : List AVal -> Heap -> Option (NetL × List (Nat × Nat) × List Nat)
 | [.d x], _ => match LW x with
  | some N => some (N, [], [])
  | none => none
 | _, _ => none
def V67 (N : NetL) : Prop := BM Try.prog (A67 N) Try.f67 (AJ Try.f67) (C67.xs N) (AE (C67.L N)) (C67.val N) (C67.keep N) [(0, 201), (1, 202)] []
theorem vc67 (N : NetL) : (V67 N) = (let q := N
 let y0 := q.r.length = q.r.length
 let y1 := ∀ (i : Nat), i < q.r.length -> (gD q.r i).fr = (gD q.r i).fr /\ (gD q.r i).to = (gD q.r i).to /\ (gD q.r i).sp.lo = (gD q.r i).sp.lo /\ (gD q.r i).sp.hi = (gD q.r i).sp.hi
 let y2 := (↑q.r.length : Int) = (↑q.r.length : Int)
 let y3 := Int.ofNat (0 : Nat) = Int.ofNat (0 : Nat)
 let y4 := q.g.length = q.g.length
 let y5 := ∀ (i : Nat), i < q.g.length -> (gD q.g i).lo = (gD q.g i).lo /\ (gD q.g i).hi = (gD q.g i).hi
 let y6 := (0 : Nat) = (0 : Nat)
 let y7 := (↑q.g.length : Int) = (↑q.g.length : Int)
 let y8 := y6 /\ (∀ (i : Nat), i < (0 : Nat) -> false = false) /\ y7 /\ y2
 let y9 := (0 : Int) < (↑q.r.length : Int)
 let y10 := (0 : Int) <= (0 : Int)
 let y11 := (0 : Nat) < (1 : Nat)
 let y12 := (5 : Nat) = (5 : Nat)
 let y13 := (1 : Nat) <= (1 : Nat) /\ (y11 -> y12)
 let y14 := (True /\ ((0 : Nat) < (0 : Nat) -> (0 : Nat) = (5 : Nat))) /\ y13 /\ (true = true -> y11) /\ (1 : Nat) <= (9223372036854775807 : Nat) /\ (40 : Nat) <= (140737488355328 : Nat)
 let y15 (a : Nat) := (↑a : Int) = IntKind.i64.wrap ((0 : Int) + (1 : Int))
 let y16 : Reach := gD q.r (Int.toNat (0 : Int))
 let y17 : Span := y16.sp
 let y18 (i : Nat) := (gD (AF q) i).now = (0 : Int)
 let y19 (a : Nat) := q.r.length - a
 let y20 := q.r.length = (0 : Nat)
 let y21 := (0 : Int) < (↑q.g.length : Int)
 let y22 (a : Nat) := q.r.length + a
 let y23 (a : Nat) := y22 a = (1 : Nat)
 let y24 (i : Nat) (a : Nat) := i < y22 a
 let y25 : Span := gD q.g (Int.toNat (0 : Int))
 let y26 (a : Nat) := q.g.length - a
 let y27 (a : KW) := a.k <= a.all.length /\ a.all.length = q.r.length + q.g.length /\ ∀ (i : Nat), i < a.all.length -> gD a.all i = if i < a.k then VW (gD (AF q) i) else gD (AF q) i
 let y28 (a : KW) := (↑a.k : Int) < (↑a.all.length : Int)
 let y29 (a : KW) := (0 : Nat) + a.k
 let y30 (a : KW) := ((0 : Int) <= (↑a.k : Int) /\ y28 a) /\ (y29 a).succ.le a.all.length
 let y31 (a : KW) (a1 : KW) := a.all.length = a1.all.length
 let y32 (i : Nat) (a : KW) := decide (i = y29 a)
 let y33 (a : KW) : Way := gD a.all (y29 a)
 let y34 (a : KW) : Span := (y33 a).sp
 let y35 (a : KW) := (y34 a).lo
 let y36 (a : KW) := (y34 a).hi
 let y37 (a : KW) := a.all.length - a.k
 let y38 (a : KW) := (AQ q).all.length = a.all.length
 let y39 := ∀ (a : KW), y27 a -> bif decide (y28 a) then y30 a /\ y30 a /\ ∃ (a_2 : KW), (y6 /\ y31 a_2 a /\ (↑a_2.all.length : Int) = (↑a.all.length : Int) /\ (↑a_2.k : Int) = IntKind.i64.wrap ((↑a.k : Int) + (1 : Int)) /\ y6 /\ y31 a_2 a /\ y7 /\ y2 /\ y31 a_2 a /\ ∀ (i : Nat), i < a_2.all.length -> ((gD a_2.all i).fr = bif y32 i a then (y33 a).fr else (gD a.all i).fr) /\ ((gD a_2.all i).to = bif y32 i a then (y33 a).to else (gD a.all i).to) /\ ((gD a_2.all i).sp.lo = bif y32 i a then y35 a else (gD a.all i).sp.lo) /\ ((gD a_2.all i).sp.hi = bif y32 i a then y36 a else (gD a.all i).sp.hi) /\ (gD a_2.all i).now = bif y32 i a then Ho (As (0 : Int) (y35 a)) (y36 a) else (gD a.all i).now) /\ y27 a_2 /\ y37 a_2 < y37 a else y6 /\ y38 a /\ (↑(AQ q).out : Int) = (↑q.g.length : Int) /\ (↑(AQ q).nR : Int) = (↑q.r.length : Int) /\ y38 a /\ ∀ (i : Nat), i < (AQ q).all.length -> (gD (AQ q).all i).fr = (gD a.all i).fr /\ (gD (AQ q).all i).to = (gD a.all i).to /\ (gD (AQ q).all i).sp.lo = (gD a.all i).sp.lo /\ (gD (AQ q).all i).sp.hi = (gD a.all i).sp.hi /\ (gD (AQ q).all i).now = (gD a.all i).now
 let y40 (a : Nat) := (↑a : Int) < (↑q.g.length : Int)
 let y41 (a : Nat) := (0 : Int) <= (↑a : Int)
 let y42 := false = true -> y11
 let y43 (a : Nat) := y22 a + (1 : Nat)
 let y44 (a : Nat) (a1 : Nat) := (↑a : Int) = IntKind.i64.wrap ((↑a1 : Int) + (1 : Int))
 let y45 (a : Nat) (a1 : Nat) := y22 a = y43 a1
 let y46 (i : Nat) (a : Nat) := decide (y24 i a)
 let y47 (a : KW) (a1 : Nat) := a.all.length = y22 a1
 let y48 := (∀ (a : One), y20 -> bif decide y21 then (y10 /\ y21) /\ y14 /\ ∃ (a : Nat), (y4 /\ y5 /\ y7 /\ y15 a /\ y6 /\ y23 a /\ y7 /\ y2 /\ y23 a /\ ∀ (i : Nat), y24 i a -> (gD (AF q) i).fr = (↑q.g.length : Int) /\ (gD (AF q) i).to = (0 : Int) /\ (gD (AF q) i).sp.lo = y25.lo /\ (gD (AF q) i).sp.hi = y25.hi /\ y18 i) /\ a.le q.g.length /\ y26 a < q.g.length else False /\ y39) /\ ∀ (a : Nat), a.le q.g.length -> bif decide (y40 a) then (y41 a /\ y40 a) /\ ((y22 a = y22 a /\ ((0 : Nat) < y22 a -> y12)) /\ y13 /\ y42 /\ y43 a <= (9223372036854775807 : Nat) /\ y43 a * (40 : Nat) <= (140737488355328 : Nat)) /\ ∃ (a_2 : Nat), (y4 /\ y5 /\ y7 /\ y44 a_2 a /\ y6 /\ y45 a_2 a /\ y7 /\ y2 /\ y45 a_2 a /\ ∀ (i : Nat), y24 i a_2 -> ((gD (AF q) i).fr = bif y46 i a then (gD (AF q) i).fr else (↑q.g.length : Int)) /\ ((gD (AF q) i).to = bif y46 i a then (gD (AF q) i).to else (↑a : Int)) /\ ((gD (AF q) i).sp.lo = bif y46 i a then (gD (AF q) i).sp.lo else (gD q.g a).lo) /\ ((gD (AF q) i).sp.hi = bif y46 i a then (gD (AF q) i).sp.hi else (gD q.g a).hi) /\ (gD (AF q) i).now = bif y46 i a then (gD (AF q) i).now else (0 : Int)) /\ a_2.le q.g.length /\ y26 a_2 < y26 a else (∃ (a_2 : KW), (y6 /\ y47 a_2 a /\ (↑a_2.all.length : Int) = (↑(y22 a) : Int) /\ (↑a_2.k : Int) = (0 : Int) /\ y6 /\ y47 a_2 a /\ y7 /\ y2 /\ y47 a_2 a /\ ∀ (i : Nat), i < a_2.all.length -> (gD a_2.all i).fr = (gD (AF q) i).fr /\ (gD a_2.all i).to = (gD (AF q) i).to /\ (gD a_2.all i).sp.lo = (gD (AF q) i).sp.lo /\ (gD a_2.all i).sp.hi = (gD (AF q) i).sp.hi /\ (gD a_2.all i).now = (gD (AF q) i).now) /\ y27 a_2) /\ y39
 let y49 (a : Nat) := (↑a : Int) < (↑q.r.length : Int)
 let y50 (a : Nat) := a + (1 : Nat)
 let y51 (a : Nat) (a1 : Nat) := a = y50 a1
 let y52 (a : Nat) (a1 : Nat) := y22 a = a1
 ((∃ (a : One), (y0 /\ y1 /\ y2 /\ y3 /\ y4 /\ y5 /\ y0 /\ y1 /\ y8) /\ True) /\ (∀ (a : One), True -> bif decide y9 then (y10 /\ y9) /\
 y14 /\ ∃ (a : Nat), (y0 /\ y1 /\ y2 /\ y15 a /\ y4 /\ y5 /\ y0 /\ y1 /\ y6 /\ a = (1 : Nat) /\ y7 /\ y2 /\ a = (1 : Nat) /\ ∀ (i : Nat), i < a -> (gD (AF N) i).fr = y16.fr /\ (gD (AF N) i).to = y16.to /\ (gD (AF N) i).sp.lo = y17.lo /\ (gD (AF N) i).sp.hi = y17.hi /\ y18 i) /\ a.le N.r.length /\ y19 a < N.r.length else (∃ (a : One), (y4
 /\ y5 /\ y7 /\ y3 /\ y8) /\ y20) /\ y48) /\ ∀ (a : Nat), a.le N.r.length -> bif decide (y49 a) then (y41 a /\ y49 a) /\ ((a = a /\ ((0 : Nat) < a -> y12)) /\ y13 /\ y42 /\ y50 a <=
 (9223372036854775807 : Nat) /\ y50 a * (40 : Nat) <= (140737488355328 : Nat)) /\ ∃ (a_2 : Nat), (y0 /\ y1 /\ y2 /\ y44 a_2 a /\ y4 /\ y5 /\ y0 /\ y1 /\ y6 /\ y51 a_2 a /\ y7 /\ y2 /\ y51 a_2 a /\ ∀ (i : Nat), i < a_2 -> ((gD (AF N) i).fr = bif decide (i < a) then (gD (AF N) i).fr else (gD N.r a).fr) /\ ((gD (AF N) i).to = bif decide (i < a) then (gD (AF N) i).to else (gD
 N.r a).to) /\ ((gD (AF N) i).sp.lo = bif decide (i < a) then (gD (AF N) i).sp.lo else (gD N.r a).sp.lo) /\ ((gD (AF N) i).sp.hi = bif decide (i < a) then (gD (AF N) i).sp.hi else (gD N.r a).sp.hi) /\
 (gD (AF N) i).now = bif decide (i < a) then (gD (AF N) i).now else (0 : Int)) /\ a_2.le N.r.length /\ y19 a_2 < y19 a else (∃ (a_2 : Nat), (y4 /\ y5 /\ y7 /\ (↑a_2 : Int) = (0 : Int) /\
 y6 /\ y52 a_2 a /\ y7 /\ y2 /\ y52 a_2 a /\ ∀ (i : Nat), y24 i a_2 -> (gD (AF N) i).fr = (gD (AF N) i).fr /\ (gD (AF N) i).to = (gD (AF N) i).to /\ (gD (AF N) i).sp.lo =
 (gD (AF N) i).sp.lo /\ (gD (AF N) i).sp.hi = (gD (AF N) i).sp.hi /\ (gD (AF N) i).now = (gD (AF N) i).now) /\ a_2.le N.g.length) /\ y48)) := by kernel_rfl
theorem FN (N : NetL) : (AF N).length = N.r.length + N.g.length := by simp [AF]
theorem SK {N : NetL} {i : Nat} (h : i < N.r.length) : gD (AF N) i = ⟨(gD N.r i).fr, (gD N.r i).to, (gD N.r i).sp, 0⟩ := by
 unfold AF
 rw [CA, if_pos (by simpa using h)]
 simp [gD, List.getD_eq_getElem?_getD, h]
theorem PJ {N : NetL} {i : Nat} (h : i < N.g.length) : gD (AF N) (N.r.length + i) = ⟨N.g.length, i, gD N.g i, 0⟩ := by
 unfold AF
 rw [CA, if_neg (by simp)]
 simp [gD, List.getD_eq_getElem?_getD, h]
theorem MD {α β : Type} [Inhabited α] [Inhabited β] (f : α -> β) {l : List α} {i : Nat} (h : i < l.length) : gD (l.map f) i = f (gD l i) := by
 simp [gD, List.getD_eq_getElem?_getD, h]
theorem EV (N : NetL) : (AQ N).all = (AF N).map VW := rfl
theorem BV (N : NetL) : (AQ N).all.length = N.r.length + N.g.length := by rw [EV]; simp [FN]
theorem p67 (N : NetL) (h1 : 1 <= N.g.length /\ N.g.length <= 1000) (h2 : N.r.length <= 1000) : V67 N := by
 rw [vc67]; (conv => zeta); simp only [CC, eq_self, implies_true, forall_const, YH, QW]
 refine ⟨⟨⟨0⟩, trivial⟩, ⟨λ hlt => ?a1, λ hge => ⟨⟨⟨0⟩, by omega⟩, ?c1, ?b1⟩⟩, λ k hk => ⟨λ hlt => ?a3, λ hge => ⟨?a4, ?c2, ?b2⟩⟩⟩
 case a1 =>
  refine ⟨⟨by omega, hlt⟩, ⟨by decide, by decide, by decide, by decide, by decide⟩, 1, ⟨rfl, rfl, rfl, λ i hi => ?_⟩, by omega, by omega⟩
  have : i = 0 := by omega
  subst this
  rw [SK (by omega)]; exact ⟨rfl, rfl, rfl, rfl, rfl⟩
 case a3 =>
  refine ⟨⟨by omega, hlt⟩, ⟨by decide, by decide, by omega, by omega⟩, k + 1, ⟨(BB (by omega)).symm, rfl, rfl, λ i hi => ?_⟩, by omega, by omega⟩
  by_cases hi2 : i < k
  ·simp [hi2]
  ·have : i = k := by omega
   subst this
   simp only [hi2, decide_false, cond_false]
   rw [SK (by omega)]; exact ⟨rfl, rfl, rfl, rfl, rfl⟩
 case a4 =>
  have : k = N.r.length := by omega
  subst this
  exact ⟨0, by simp, by omega⟩
 case c1 | c2 =>
  intro h0
  refine ⟨λ hlt => ?_, λ hge => by omega⟩
  refine ⟨⟨by omega, hlt⟩, ⟨by decide, by decide, by decide, by decide, by decide⟩, 1, ⟨rfl, by omega, by omega, λ i hi => ?_⟩, by omega, by omega⟩
  have : i = 0 := by omega
  subst this
  have := PJ (N := N) (i := 0) (by omega)
  rw [h0] at this
  rw [this]; exact ⟨rfl, rfl, rfl, rfl, rfl⟩
 case b1 | b2 =>
  intro k hk
  refine ⟨λ hlt => ?_, λ hge => ⟨?_, λ s ⟨g1, g2, g3⟩ => ⟨λ hlt => ?_, λ hge => ?_⟩⟩⟩
  ·refine ⟨⟨by omega, hlt⟩, ⟨by decide, by decide, by omega, by omega⟩, k + 1, ⟨(BB (by omega)).symm, by omega, by omega, λ i hi => ?_⟩, by omega, by omega⟩
   by_cases hi2 : i < N.r.length + k
   ·simp [hi2]
   ·have : i = N.r.length + k := by omega
    subst this
    simp only [hi2, decide_false, cond_false]
    rw [PJ (by omega)]; exact ⟨rfl, rfl, rfl, rfl, rfl⟩
  ·have : k = N.g.length := by omega
   subst this
   exact ⟨⟨0, AF N⟩, ⟨FN N, by rw [FN], rfl, FN N, FN N, λ i _ => ⟨rfl, rfl, rfl, rfl, rfl⟩⟩, by simp, FN N, λ i _ => by simp⟩
  ·have hk : s.k < s.all.length := by omega
   refine ⟨⟨⟨by omega, hlt⟩, hk⟩, ⟨⟨by omega, hlt⟩, hk⟩, ⟨s.k + 1, s.all.modify s.k VW⟩, ⟨by simp, by simp, (BB (by omega)).symm, by simp, by simp, λ i hi => ?_⟩, ⟨by simp; omega, by simp; omega, λ i hi => ?_⟩, by simp; omega⟩
   ·rw [BR hk]
    by_cases he : i = s.k
    ·subst he; simp [VW]
    ·simp [he]
   ·have hi : i < s.all.length := by simpa using hi
    show gD (s.all.modify s.k VW) i = if i < s.k + 1 then _ else _
    rw [BR hk]
    by_cases he : i = s.k
    ·subst he; rw [if_pos rfl, if_pos (by omega), g3 _ hk, if_neg (by omega)]
    ·rw [if_neg he, g3 _ hi]
     by_cases hi2 : i < s.k
     ·rw [if_pos hi2, if_pos (by omega)]
     ·rw [if_neg hi2, if_neg (by omega)]
  ·have hs : (AQ N).all = s.all := by
    apply OD
    ·rw [BV, g2]
    ·intro i hi
     rw [BV] at hi
     rw [EV, MD _ (by rw [FN]; exact hi), g3 _ (by omega), if_pos (by omega)]
   rw [hs]
   exact ⟨rfl, rfl, rfl, rfl, λ i _ => ⟨rfl, rfl, rfl, rfl, rfl⟩⟩
theorem Vr : AL Try.prog 67 (C67.spec XP) := JC C67 A67 [(0, 201), (1, 202)] [] Try.func67 (λ _ => by kernel_rfl) (λ _ => AH) (λ N h => p67 N h.1 h.2) (λ _ => KF rfl rfl) _
def UB (n : Nat) (l : List Int) : HCell := .live (.row 1 n λ i => CE (gD l i))
def Ji (d : Desk) : List Int := d.all.map λ w => w.now
def A56 (d : Desk) : Ann := { ann 49 [] with E := [100, 101], mt := λ id => id == 5, loops := λ id => if id = 3 then some [{ α := Nat, dflt := 0, T := λ k => ⟨[(0, .bptr 100 0), (2, .bptr 200 0), (3, .d HX), (11, .own 101 5 0 d.all.length), (12, .int d.all.length), (13, .int k)], JM d ++ [(200, .live (.box [.d HX, .d HX]))]⟩, inv := λ k => k = 0, meas := λ _ => d.all.length, first := [(200, 1000)] }, { α := Nat, dflt := 0, T := λ k => ⟨[(0, .bptr 100 0), (2, .bptr 200 0), (3, .own 202 1 0 k), (11, .own 101 5 0 d.all.length), (12, .int d.all.length), (13, .int k)], JM d ++ [(200, .live (.box [.d HX, .d HX])), (202, UB k (Ji d))]⟩, inv := λ k => k <= d.all.length, meas := λ k => d.all.length - k, again := [(202, 6064)] }] else none }
def C56 : Ctr := { ro := [100, 101], α := Desk, xs := λ _ => [.bptr 100 0], L := JH, val := λ d => .agg [.own 0 1 0 d.nR, .own 1 1 0 d.out], keep := λ d => JM d ++ [(0, UB d.nR (AP d).f), (1, UB d.out (AP d).t)], pre := λ d => [1 <= d.out /\ d.all.length <= 1000, d.nR + d.out <= d.all.length] }
def V56 (d : Desk) : Prop := BM Try.prog (A56 d) Try.f56 (AJ Try.f56) (C56.xs d) (AE (C56.L d)) (C56.val d) (C56.keep d) [(0, 8064), (1, 8160)] []
theorem Zw (d : Desk) : (V56 d) = (let q := d
 let y0 := 0 = 0
 let y1 := ∀ (i : Nat), i < 0 -> false = false
 let y2 := q.all.length = q.all.length
 let y3 := (↑q.all.length : Int) = (↑q.all.length : Int)
 let y4 := (↑q.out : Int) = (↑q.out : Int)
 let y5 := (↑q.nR : Int) = (↑q.nR : Int)
 let y6 := ∀ (i : Nat), i < q.all.length -> (gD q.all i).fr = (gD q.all i).fr /\ (gD q.all i).to = (gD q.all i).to /\ (gD q.all i).sp.lo = (gD q.all i).sp.lo /\ (gD q.all i).sp.hi = (gD q.all i).sp.hi /\ (gD q.all i).now = (gD q.all i).now
 let y7 (a : Nat) := (↑a : Int) < (↑q.all.length : Int)
 let y8 (a : Nat) := decide (y7 a)
 let y9 (a : Nat) := 0 + a
 let y10 (a : Nat) := (0 <= (↑a : Int) /\ y7 a) /\ (y9 a).succ.le q.all.length
 let y11 := True /\ (0 < 0 -> 0 = 1)
 let y12 := 0 < 1
 let y13 := 1 = 1
 let y14 := 1 <= 1 /\ (y12 -> y13)
 let y15 (a : Nat) (a1 : Nat) := (↑a : Int) = IntKind.i64.wrap ((↑a1 : Int) + 1)
 let y16 (a : Nat) := (gD q.all (y9 a)).now
 let y17 (a : Nat) := q.all.length - a
 let y18 := 0 <= (↑q.nR : Int)
 let y19 := (y18 /\ y5 /\ (↑q.nR : Int) <= 9223372036854775807 /\ (↑8 : Int) * (↑q.nR : Int) <= 281474976710656) /\ 0 <= (↑q.out : Int) /\ y4 /\ (↑q.out : Int) <= 9223372036854775807 /\ (↑8 : Int) * (↑q.out : Int) <= 281474976710656
 let y20 (a : Nat) := 0 < a -> y13
 let y21 (a : Nat) := a + 1
 let y22 (a : Nat) (a1 : Nat) := a = y21 a1
 let y23 := 0 + q.nR
 let y24 (a : Nat) := a - q.nR
 ((∃ (a : Nat), (y0 /\ y1 /\ y0 /\ y2 /\ y3 /\ (↑a : Int) = 0 /\ y0 /\ y2 /\ y4 /\ y5 /\ y2 /\ y6 /\ y0 /\ y1 /\ y0 /\ y1) /\ a = 0) /\ (∀ (a :
 Nat), a = 0 -> bif y8 a then y10 a /\ (y11 /\ y14 /\ (true = true -> y12) /\ 1 <= 9223372036854775807 /\ 8 <= 140737488355328) /\ ∃ (a_2 : Nat), (y0 /\ a_2 = 1 /\ y0 /\ y2 /\ y3 /\ y15 a_2 a /\
 y0 /\ y2 /\ y4 /\ y5 /\ y2 /\ y6 /\ y0 /\ y1 /\ y0 /\ y1 /\ a_2 = 1 /\ ∀ (i : Nat), i < a_2 -> gD (Ji d) i = y16 a) /\ a_2.le d.all.length /\ y17 a_2 < d.all.length else y19 /\
 (y11 /\ d.nR.le d.nR) /\ False) /\ ∀ (a : Nat), a.le d.all.length -> bif y8 a then y10 a /\ ((a = a /\ y20 a) /\ y14 /\ (false = true -> y12) /\ y21 a <= 9223372036854775807 /\ y21 a * 8 <=
 140737488355328) /\ ∃ (a_2 : Nat), (y0 /\ y22 a_2 a /\ y0 /\ y2 /\ y3 /\ y15 a_2 a /\ y0 /\ y2 /\ y4 /\ y5 /\ y2 /\ y6 /\ y0 /\ y1 /\ y0 /\ y1 /\ y22 a_2 a /\ ∀ (i : Nat), i
 < a_2 -> gD (Ji d) i = bif decide (i < a) then gD (Ji d) i else y16 a) /\ a_2.le d.all.length /\ y17 a_2 < y17 a else y19 /\ ((y9 a <= a /\ y20 a) /\ d.nR.le d.nR) /\ ((y18 /\ (↑d.nR : Int) <=
 (↑a : Int) /\ (↑a : Int) <= (↑a : Int) /\ ((↑d.nR : Int) = 0 ∨ (↑d.nR : Int) < (↑a : Int))) /\ (y23 + y24 a <= a /\ (0 < y24 a -> y13)) /\ d.out.le d.out) /\ y0 /\ d.nR = d.nR /\ y0 /\ d.out = d.out /\ y0 /\
 y2 /\ y4 /\ y5 /\ y2 /\ y6 /\ d.nR = d.nR /\ (∀ (i : Nat), i < d.nR -> gD (AP d).f i = bif decide (i < min a d.nR) then gD (Ji d) (y9 i) else 0) /\ d.out = d.out /\ ∀ (i : Nat), i < d.out -> gD
 (AP d).t i = bif decide (i < min (y24 a) d.out) then gD (Ji d) (y23 + i) else 0)) := by kernel_rfl
theorem DU {α : Type} [Inhabited α] (f : Nat -> α) {n i : Nat} (h : i < n) : gD ((List.range n).map f) i = f i := by
 simp [gD, List.getD_eq_getElem?_getD, h]
theorem YE {d : Desk} {i : Nat} (h : i < d.all.length) : gD (Ji d) i = (gD d.all i).now := MD _ h
theorem p56 (d : Desk) (h1 : 1 <= d.out /\ d.all.length <= 1000) (h2 : d.nR + d.out <= d.all.length) : V56 d := by
 rw [Zw]; (conv => zeta); simp only [CC, eq_self, implies_true, forall_const]
 refine ⟨⟨0, rfl, rfl⟩, ⟨λ k hk => ⟨λ hlt => ?_, λ hge => by omega⟩, λ k hk => ⟨λ hlt => ?_, λ hge => ?_⟩⟩⟩
 ·subst hk
  refine ⟨⟨⟨by omega, by omega⟩, by omega⟩, ⟨by decide, by decide, by decide, by decide, by decide⟩, 1, ⟨rfl, rfl, rfl, λ i hi => ?_⟩, by omega, by omega⟩
  have : i = 0 := by omega
  subst this; exact YE (by omega)
 ·refine ⟨⟨⟨by omega, by omega⟩, by omega⟩, ⟨by decide, by decide, by omega, by omega⟩, k + 1, ⟨rfl, (BB (by omega)).symm, rfl, λ i hi => ?_⟩, by omega, by omega⟩
  by_cases hi2 : i < k
  ·simp [hi2]
  ·have : i = k := by omega
   subst this
   simp only [hi2, decide_false, cond_false]
   exact YE (by omega)
 ·have hk : k = d.all.length := by omega
  subst hk
  refine ⟨⟨⟨by omega, by omega, by omega⟩, by omega, by omega, by omega⟩, ⟨Nat.le_refl _, Nat.le_refl _⟩, ⟨⟨by omega, by omega, Int.le_refl _, by omega⟩, by omega, Nat.le_refl _⟩, λ i hi => ?_, λ i hi => ?_⟩
  ·rw [show decide (i < min d.all.length d.nR) = true by simp; omega]
   simp only [cond_true]
   rw [YE (by omega)]; exact DU (λ i => (gD d.all i).now) hi
  ·rw [show decide (i < min (d.all.length - d.nR) d.out) = true by simp; omega]
   simp only [cond_true]
   rw [YE (by omega)]; exact DU (λ i => (gD d.all (d.nR + i)).now) hi
theorem Rj : AL Try.prog 56 (C56.spec OP) := JC C56 A56 [(0, 8064), (1, 8160)] [] Try.func56 (λ _ => by kernel_rfl) (λ _ => AH) (λ d h => p56 d h.1 h.2) (λ _ => KF rfl rfl) _
structure NT where
 N : NetL
 T : TruthL
 deriving Inhabited
def A70 (a : NT) : Ann := { ann 51 [(98, s98), (99, C99.spec d99)] with mt := λ id => id == 5 || id == 10, loops := λ id => if id = 3 then some [{ α := Nat, dflt := 0, T := λ k => ⟨[(2, .bptr 200 0), (3, .bptr 201 0), (5, .d HX), (11, .d (BS a.N.r)), (12, .int a.N.r.length), (13, .int k)], [(200, MW a.N), (201, .live (.box [.d (CV a.T.f), .d (CV a.T.t)]))]⟩, inv := λ k => k = 0, meas := λ _ => a.N.r.length, first := [(200, 1000), (201, 1016)] }, { α := Nat, dflt := 0, T := λ k => ⟨[(2, .bptr 200 0), (3, .bptr 201 0), (5, .own 202 1 0 k), (11, .d (BS a.N.r)), (12, .int a.N.r.length), (13, .int k)], [(200, MW a.N), (201, .live (.box [.d (CV a.T.f), .d (CV a.T.t)])), (202, UB k (FU a.N a.T))]⟩, inv := λ k => k <= a.N.r.length, meas := λ k => a.N.r.length - k, again := [(202, 6160)] }] else if id = 8 then some [{ α := Nat, dflt := 0, T := λ k => ⟨[(3, .bptr 201 0), (5, .d HX), (31, .d (DV a.N.g)), (32, .int a.N.g.length), (33, .int k)], [(201, .live (.box [.d (CV a.T.f), .d (CV a.T.t)]))]⟩, inv := λ k => k = 0 /\ a.N.r.length = 0, meas := λ _ => a.N.g.length }, { α := Nat, dflt := 0, T := λ k => ⟨[(3, .bptr 201 0), (5, .own 202 1 0 (a.N.r.length + k)), (31, .d (DV a.N.g)), (32, .int a.N.g.length), (33, .int k)], [(201, .live (.box [.d (CV a.T.f), .d (CV a.T.t)])), (202, UB (a.N.r.length + k) (FU a.N a.T))]⟩, inv := λ k => k <= a.N.g.length, meas := λ k => a.N.g.length - k, again := [(202, 11144)] }] else none }
def C70 : Ctr := { α := NT, xs := λ a => [.d (EZ a.N), .d (HZ a.T)], L := λ _ => [], val := λ a => .int (IJ a.N a.T), keep := λ _ => [], pre := λ a => [1 <= a.N.g.length /\ a.N.g.length <= 1000, a.N.r.length <= 1000, a.T.f.length = a.N.r.length, a.T.t.length = a.N.g.length] }
def d70 : List AVal -> Heap -> Option (NT × List (Nat × Nat) × List Nat)
 | [.d x, .agg [.own p _ _ n, .own q _ _ m]], H => match LW x, H p, H q with
  | some N, .live (.row _ _ f), .live (.row _ _ g) => some (⟨N, AC n λ i => EW (f i), AC m λ i => EW (g i)⟩, [], [p, q])
  | _, _, _ => none
 | [.agg [.d (.list _ n f _), .own r _ _ m], .agg [.own p _ _ n1, .own q _ _ m1]], H => match H r, H p, H q with
  | .live (.row _ _ h), .live (.row _ _ f1), .live (.row _ _ g1) => some (⟨⟨AC n λ i => HH (f i), AC m λ i => ET (h i)⟩, ⟨AC n1 λ i => EW (f1 i), AC m1 λ i => EW (g1 i)⟩⟩, [], [r, p, q]) -- eRowNet
  | _, _, _ => none
 | [.d x, .d (.agg [.list _ n f _, .list _ m g _])], _ => match LW x with
  | some N => some (⟨N, AC n λ i => EW (f i), AC m λ i => EW (g i)⟩, [], [])
  | none => none
 | _, _ => none
def V70 (a : NT) : Prop := BM Try.prog (A70 a) Try.f70 (AJ Try.f70) (C70.xs a) (AE (C70.L a)) (C70.val a) (C70.keep a) [] []
theorem vc70 (a : NT) : (V70 a) = (let q := a
 let y0 := 0 = 0
 let y1 := ∀ (i : Nat), i < 0 -> false = false
 let y2 := q.N.r.length = q.N.r.length
 let y3 := ∀ (i : Nat), i < q.N.r.length -> (gD q.N.r i).fr = (gD q.N.r i).fr /\ (gD q.N.r i).to = (gD q.N.r i).to /\ (gD q.N.r i).sp.lo = (gD q.N.r i).sp.lo /\ (gD q.N.r i).sp.hi = (gD q.N.r i).sp.hi
 let y4 := (↑q.N.r.length : Int) = (↑q.N.r.length : Int)
 let y5 (a : Nat) := (↑a : Int) = 0
 let y6 := q.N.g.length = q.N.g.length
 let y7 := ∀ (i : Nat), i < q.N.g.length -> (gD q.N.g i).lo = (gD q.N.g i).lo /\ (gD q.N.g i).hi = (gD q.N.g i).hi
 let y8 := q.T.f.length = q.T.f.length
 let y9 := ∀ (i : Nat), i < q.T.f.length -> gD q.T.f i = gD q.T.f i
 let y10 := q.T.t.length = q.T.t.length
 let y11 := ∀ (i : Nat), i < q.T.t.length -> gD q.T.t i = gD q.T.t i
 let y12 := y8 /\ y9 /\ y10 /\ y11
 let y13 (a : Nat) := (↑a : Int) < (↑q.N.r.length : Int)
 let y14 (a : Nat) := decide (y13 a)
 let y15 (a : Nat) := 0 <= (↑a : Int)
 let y16 (a : Nat) := y15 a /\ y13 a
 let y17 (a : Nat) := y15 a /\ (↑a : Int) < (↑q.T.f.length : Int)
 let y18 := 0 < 1
 let y19 := 1 = 1
 let y20 := 1 <= 1 /\ (y18 -> y19)
 let y21 := (True /\ (0 < 0 -> 0 = 1)) /\ y20 /\ (true = true -> y18) /\ 1 <= 9223372036854775807 /\ 8 <= 140737488355328
 let y22 (a : Nat) (a1 : Nat) := (↑a : Int) = IntKind.i64.wrap ((↑a1 : Int) + 1)
 let y23 (a1 : Nat) := SC (gD q.T.f a1) (gD q.N.r a1).sp
 let y24 (a1 : Nat) := q.N.r.length - a1
 let y25 := (↑q.N.g.length : Int) = (↑q.N.g.length : Int)
 let y26 (a : Nat) := a = 0 /\ q.N.r.length = 0
 let y27 (a : Nat) := (↑a : Int) < (↑q.N.g.length : Int)
 let y28 (a : Nat) := decide (y27 a)
 let y29 (a : Nat) := y15 a /\ y27 a
 let y30 (a : Nat) := y15 a /\ (↑a : Int) < (↑q.T.t.length : Int)
 let y31 (a1 : Nat) := q.N.r.length + a1
 let y32 (a1 : Nat) := y31 a1 = 1
 let y33 (i : Nat) (a1 : Nat) := i < y31 a1
 let y34 (a1 : Nat) := SC (gD q.T.t a1) (gD q.N.g a1)
 let y35 (a1 : Nat) := q.N.g.length - a1
 let y36 : List Int := AC 0 λ (i : Nat) => default
 let y37 := false = true -> y18
 let y38 (a1 : Nat) := y31 a1 + 1
 let y39 (a1 : Nat) (a2 : Nat) := y31 a1 = y38 a2
 let y40 (a1 : Nat) : List Int := AC (y31 a1) λ (i : Nat) => gD (FU q.N q.T) i
 let y41 (a1 : Nat) := (y40 a1).length
 let y42 := (∀ (a_1 : Nat), y26 a_1 -> bif y28 a_1 then y29 a_1 /\ (y30 a_1 /\ y21) /\ ∃ (a_3 : Nat), (y0 /\ y32 a_3 /\ y6 /\ y7 /\ y25 /\ y22 a_3 a_1 /\ y8 /\ y9 /\ y10 /\ y11 /\ y32 a_3 /\ ∀ (i : Nat), y33 i a_3 -> gD (FU q.N q.T) i = y34 a_1) /\ a_3.le q.N.g.length /\ y35 a_3 < q.N.g.length else (y0 /\ y0 /\ y36.length.succ.le 4611686018427387904) /\ IJ q.N q.T = ES 0 y36) /\ ∀ (a_1 : Nat), a_1.le q.N.g.length -> bif y28 a_1 then y29 a_1 /\ (y30 a_1 /\ (y31 a_1 = y31 a_1 /\ (0 < y31 a_1 -> y19)) /\ y20 /\ y37 /\ y38 a_1 <= 9223372036854775807 /\ y38 a_1 * 8 <= 140737488355328) /\ ∃ (a_3 : Nat), (y0 /\ y39 a_3 a_1 /\ y6 /\ y7 /\ y25 /\ y22 a_3 a_1 /\ y8 /\ y9 /\ y10 /\ y11 /\ y39 a_3 a_1 /\ ∀ (i : Nat), y33 i a_3 -> gD (FU q.N q.T) i = bif decide (y33 i a_1) then gD (FU q.N q.T) i else y34 a_1) /\ a_3.le q.N.g.length /\ y35 a_3 < y35 a_1 else (y41 a_1 = y31 a_1 /\ 0 + y31 a_1 <= y31 a_1 /\ (∀ (j : Nat), j < y41 a_1 -> gD (y40 a_1) j = gD (FU q.N q.T) (0 + j)) /\ (y41 a_1).succ.le 4611686018427387904) /\ IJ q.N q.T = ES 0 (y40 a_1)
 let y43 (a : Nat) := a + 1
 let y44 (a : Nat) (a1 : Nat) := a = y43 a1
 let y45 (a1 : Nat) (a2 : Nat) := y31 a1 = a2
 ((∃ (a_1 : Nat), (y0 /\ y1 /\ y2 /\ y3 /\ y4 /\ y5 a_1 /\ y6 /\ y7 /\ y2 /\ y3 /\ y12) /\ a_1 = 0) /\ (∀ (a_1 : Nat), a_1 = 0 -> bif y14 a_1 then
 y16 a_1 /\ (y17 a_1 /\ y21) /\ ∃ (a_3 : Nat), (y0 /\ a_3 = 1 /\ y2 /\ y3 /\ y4 /\ y22 a_3 a_1 /\ y6 /\ y7 /\ y2 /\ y3 /\ y8 /\ y9 /\ y10 /\ y11 /\ a_3 = 1 /\ ∀ (i :
 Nat), i < a_3 -> gD (FU a.N a.T) i = y23 a_1) /\ a_3.le a.N.r.length /\ y24 a_3 < a.N.r.length else (∃ (a_3 : Nat), (y0 /\ y1 /\ y6 /\ y7 /\ y25 /\ y5 a_3 /\ y12) /\ y26 a_3) /\ y42) /\ ∀ (a_1 : Nat), a_1.le a.N.r.length -> bif y14 a_1 then y16 a_1 /\ (y17 a_1 /\ (a_1 = a_1 /\ (0 < a_1 -> y19)) /\ y20 /\ y37 /\ y43 a_1 <= 9223372036854775807 /\ y43 a_1 * 8 <= 140737488355328) /\ ∃
 (a_3 : Nat), (y0 /\ y44 a_3 a_1 /\ y2 /\ y3 /\ y4 /\ y22 a_3 a_1 /\ y6 /\ y7 /\ y2 /\ y3 /\ y8 /\ y9 /\ y10 /\ y11 /\ y44 a_3 a_1 /\ ∀ (i : Nat), i < a_3 -> gD (FU
 a.N a.T) i = bif decide (i < a_1) then gD (FU a.N a.T) i else y23 a_1) /\ a_3.le a.N.r.length /\ y24 a_3 < y24 a_1 else (∃ (a_3 : Nat), (y0 /\ y45 a_3 a_1 /\ y6 /\ y7 /\ y25 /\ y5 a_3
 /\ y8 /\ y9 /\ y10 /\ y11 /\ y45 a_3 a_1 /\ ∀ (i : Nat), y33 i a_3 -> gD (FU a.N a.T) i = gD (FU a.N a.T) i) /\ a_3.le a.N.g.length) /\ y42)) := by kernel_rfl
theorem Gy {N : NetL} {T : TruthL} {i : Nat} (h : i < N.r.length) : gD (FU N T) i = SC (gD T.f i) (gD N.r i).sp := by
 unfold FU
 rw [CA, if_pos (by simpa using h)]
 exact DU (λ i => SC (gD T.f i) (gD N.r i).sp) h
theorem Fs {N : NetL} {T : TruthL} {i : Nat} (h : i < N.g.length) : gD (FU N T) (N.r.length + i) = SC (gD T.t i) (gD N.g i) := by
 unfold FU
 rw [CA, if_neg (by simp)]
 simp only [List.length_map, List.length_range, Nat.add_sub_cancel_left]
 exact DU (λ i => SC (gD T.t i) (gD N.g i)) h
theorem Mi (N : NetL) (T : TruthL) : (FU N T).length = N.r.length + N.g.length := by simp [FU]
theorem p70 (a : NT) (h1 : 1 <= a.N.g.length /\ a.N.g.length <= 1000) (h2 : a.N.r.length <= 1000) (h3 : a.T.f.length = a.N.r.length) (h4 : a.T.t.length = a.N.g.length) : V70 a := by
 rw [vc70]; (conv => zeta); simp only [CC, eq_self, implies_true, forall_const]
 refine ⟨⟨0, rfl, rfl⟩, ⟨λ k hk => ⟨λ hlt => ?a1, λ hge => ⟨⟨0, rfl, rfl, by omega⟩, ?c1, ?b1⟩⟩, λ k hk => ⟨λ hlt => ?a2, λ hge => ⟨⟨0, by omega, by omega⟩, ?c2, ?b2⟩⟩⟩⟩
 case a1 =>
  subst hk
  refine ⟨⟨by omega, by omega⟩, ⟨⟨by omega, by omega⟩, by decide, by decide, by decide, by decide, by decide⟩, 1, ⟨rfl, rfl, rfl, λ i hi => ?_⟩, by omega, by omega⟩
  have : i = 0 := by omega
  subst this; exact Gy (by omega)
 case a2 =>
  refine ⟨⟨by omega, by omega⟩, ⟨⟨by omega, by omega⟩, by decide, by decide, by omega, by omega⟩, k + 1, ⟨rfl, (BB (by omega)).symm, rfl, λ i hi => ?_⟩, by omega, by omega⟩
  by_cases hi2 : i < k
  ·simp [hi2]
  ·have : i = k := by omega
   subst this
   simp only [hi2, decide_false, cond_false]
   exact Gy (by omega)
 case c1 | c2 =>
  intro k ⟨hk, h0⟩
  subst hk
  refine ⟨λ hlt => ⟨⟨by omega, by omega⟩, ⟨⟨by omega, by omega⟩, by decide, by decide, by decide, by decide, by decide⟩, 1, ⟨by omega, rfl, by omega, λ i hi => ?_⟩, by omega, by omega⟩, λ hge => by omega⟩
  have : i = 0 := by omega
  subst this
  have := Fs (N := a.N) (T := a.T) (i := 0) (by omega)
  rw [h0] at this; exact this
 case b1 | b2 =>
  intro k hk
  refine ⟨λ hlt => ⟨⟨by omega, by omega⟩, ⟨⟨by omega, by omega⟩, by decide, by decide, by omega, by omega⟩, k + 1, ⟨by omega, (BB (by omega)).symm, by omega, λ i hi => ?_⟩, by omega, by omega⟩, λ hge => ?_⟩
  ·by_cases hi2 : i < a.N.r.length + k
   ·simp [hi2]
   ·have : i = a.N.r.length + k := by omega
    subst this
    simp only [hi2, decide_false, cond_false]
    exact Fs (by omega)
  ·have hk : k = a.N.g.length := by omega
   subst hk
   have e : AC (a.N.r.length + a.N.g.length) (λ i => gD (FU a.N a.T) i) = FU a.N a.T := by rw [<- Mi a.N a.T]; exact MM _
   rw [e]
   exact ⟨⟨Nat.le_refl _, λ _ _ => rfl, by omega⟩, rfl⟩
theorem Yi : AL Try.prog 70 (C70.spec d70) := JC C70 A70 [] [] Try.func70 (λ _ => by kernel_rfl) (λ _ => AB ok98 (AB ok99 AH)) (λ a h => p70 a h.1 h.2.1 h.2.2.1 h.2.2.2) (λ _ => KF rfl rfl) _
end Go.Bal
