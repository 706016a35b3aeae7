/- The reference: what levels prove; Proves. -/
import Derived.Test.YtonddbmhljelgaaBalLv
set_option linter.unusedVariables false
set_option linter.unusedSimpArgs false
namespace Go.Bal
open Go Go.Sym Go.Proofs
structure PvA where
 N : NetL
 lv : List Int
 grp : List Bool
 gate : Int
 skip : Int
def pvRi (a : PvA) (i : Nat) : Int := wr (gD a.lv (gD a.N.r i).to.toNat - gD a.lv (gD a.N.r i).fr.toNat)
def Xy (a : PvA) (i : Nat) : Int := wr (gD a.lv i - (bif gD a.grp i then a.gate else 0))
def Gd (a : PvA) : Nat -> Int
 | 0 => 0
 | i + 1 => bif (i : Int) != a.skip then wr (Gd a i + PB (pvRi a i) (gD a.N.r i).sp) else Gd a i
def KN (a : PvA) : Nat -> Int
 | 0 => Gd a a.N.r.length
 | i + 1 => bif (i : Int) != wr (a.skip - 100) then wr (KN a i + PB (Xy a i) (gD a.N.g i)) else KN a i
def pvSl (a : PvA) : List (Nat × AVal) := [(1, .d (AW a.lv)), (2, .d (HK a.grp)), (3, .int a.gate), (4, .int a.skip), (5, .bptr 203 0)]
def A54 (a : PvA) : Ann := { ann 84 [(84, s84)] with loops := λ id => if id = 3 then some [{ α := Nat, dflt := 0, T := λ i => ⟨pvSl a ++ [(11, .int (Gd a i)), (12, .int i)], [(203, EZ a.N)]⟩, inv := λ i => i <= a.N.r.length, meas := λ i => a.N.r.length - i, first := [(203, 1000)] }] else if id = 8 then some [{ α := Nat, dflt := 0, T := λ i => ⟨pvSl a ++ [(11, .int (KN a i)), (13, .int i)], [(203, EZ a.N)]⟩, inv := λ i => i <= a.N.g.length, meas := λ i => a.N.g.length - i }] else none }
def C54 : Ctr := { α := PvA, xs := λ a => [.d (EI a.N), .d (AW a.lv), .d (HK a.grp), .int a.gate, .int a.skip], L := λ _ => [], val := λ a => .int (KN a a.N.g.length), keep := λ _ => [], pre := λ a => [AC a.N = 0, a.lv.length = a.N.g.length, a.grp.length = a.N.g.length] }
def V54 (a : PvA) : Prop := BC Try.prog (A54 a) Try.f54 (AH Try.f54) (C54.xs a) (AE []) (C54.val a) (C54.keep a) [] []
theorem vc54 (a : PvA) : (V54 a) = (let q := a
 let y0 := q.lv.length = q.lv.length
 let y1 := ∀ (i : Nat), i < q.lv.length -> gD q.lv i = gD q.lv i
 let y2 := q.grp.length = q.grp.length
 let y3 := ∀ (i : Nat), i < q.grp.length -> gD q.grp i = gD q.grp i
 let y4 := q.N.g.length = q.N.g.length /\ (∀ (i : Nat), i < q.N.g.length -> (gD q.N.g i).lo = (gD q.N.g i).lo /\ (gD q.N.g i).hi = (gD q.N.g i).hi) /\ q.N.r.length = q.N.r.length /\ ∀ (i : Nat), i < q.N.r.length -> (gD q.N.r i).fr = (gD q.N.r i).fr /\ (gD q.N.r i).to = (gD q.N.r i).to /\ (gD q.N.r i).sp.lo = (gD q.N.r i).sp.lo /\ (gD q.N.r i).sp.hi = (gD q.N.r i).sp.hi
 let y5 (a : Nat) := (↑a : Int) = 0 /\ y4
 let y6 (a : Nat) := (↑a : Int) < (↑q.N.r.length : Int)
 let y7 (a : Nat) := 0 <= (↑a : Int)
 let y8 (a : Nat) := y7 a /\ y6 a
 let y9 (a : Nat) (a1 : Nat) := (↑a : Int) = IntKind.i64.wrap ((↑a1 : Int) + 1) /\ y4
 let y10 (a1 : Nat) := q.N.r.length - a1
 let y11 (a : Nat) (a2 : Nat) := a.le q.N.r.length /\ y10 a < y10 a2
 let y12 (a : Nat) := (↑a : Int) < (↑q.N.g.length : Int)
 let y13 (a : Nat) := (↑a : Int) != IntKind.i64.wrap (q.skip - 100)
 let y14 (a : Nat) := (y7 a /\ (↑a : Int) < (↑q.lv.length : Int)) /\ y7 a /\ y12 a
 let y15 (a1 : Nat) := q.N.g.length - a1
 let y16 (a : Nat) (a2 : Nat) := a.le q.N.g.length /\ y15 a < y15 a2
 let y17 (a1 : Nat) := ∃ (a_1 : Nat), (y0 /\ y1 /\ y2 /\ y3 /\ q.gate = q.gate /\ q.skip = q.skip /\ KN q a_1 = KN q a1 /\ y9 a_1 a1) /\ y16 a_1 a1
 ((∃ (a_1 : Nat), (y0 /\ y1 /\ y2 /\ y3 /\ a.gate = a.gate /\ a.skip = a.skip /\ Gd a a_1 = 0 /\ y5 a_1) /\ a_1.le a.N.r.length) /\ ∀ (a_1 : Nat), a_1.le a.N.r.length ->
 bif decide (y6 a_1) then bif (↑a_1 : Int) != a.skip then (y8 a_1 /\ (0 <= (gD a.N.r a_1).to /\ (gD a.N.r a_1).to < (↑a.lv.length : Int)) /\ y8 a_1 /\ (0 <= (gD a.N.r a_1).fr /\ (gD a.N.r a_1).fr < (↑a.lv.length :
 Int)) /\ y8 a_1) /\ ∃ (a_3 : Nat), (y0 /\ y1 /\ y2 /\ y3 /\ a.gate = a.gate /\ a.skip = a.skip /\ Gd a a_3 = IntKind.i64.wrap (Gd a a_1 + PB (IntKind.i64.wrap (gD a.lv (gD a.N.r a_1).to.toNat - gD
 a.lv (gD a.N.r a_1).fr.toNat)) (gD a.N.r a_1).sp) /\ y9 a_3 a_1) /\ y11 a_3 a_1 else ∃ (a_3 : Nat), (y0 /\ y1 /\ y2 /\ y3 /\ a.gate = a.gate /\ a.skip = a.skip /\ Gd a a_3 = Gd a a_1 /\ y9 a_3 a_1) /\ y11 a_3 a_1 else (∃ (a_3 : Nat), (y0 /\ y1 /\ y2 /\ y3 /\ a.gate = a.gate /\ a.skip = a.skip /\ KN a a_3 = Gd a a_1 /\ y5 a_3) /\ a_3.le a.N.g.length) /\ ∀ (a_3 : Nat), a_3.le a.N.g.length
 -> bif decide (y12 a_3) then (y7 a_3 /\ (↑a_3 : Int) < (↑a.grp.length : Int)) /\ bif gD a.grp a_3 then bif y13 a_3 then y14 a_3 /\ ∃ (a_5 : Nat), (y0 /\ y1 /\ y2 /\ y3 /\ a.gate = a.gate /\
 a.skip = a.skip /\ KN a a_5 = IntKind.i64.wrap (KN a a_3 + PB (IntKind.i64.wrap (gD a.lv a_3 - a.gate)) (gD a.N.g a_3)) /\ y9 a_5 a_3) /\ y16 a_5 a_3 else y17 a_3 else bif y13 a_3 then y14 a_3
 /\ ∃ (a_5 : Nat), (y0 /\ y1 /\ y2 /\ y3 /\ a.gate = a.gate /\ a.skip = a.skip /\ KN a a_5 = IntKind.i64.wrap (KN a a_3 + PB (IntKind.i64.wrap (gD a.lv a_3 - 0)) (gD a.N.g a_3)) /\ y9 a_5 a_3) /\
 y16 a_5 a_3 else y17 a_3 else KN a a.N.g.length = KN a a_3)) := by kernel_rfl
def d54 : List AVal -> Heap -> Option (PvA × List (Nat × Nat) × List Nat)
 | [x, l, g, .d (.v (.int _ q)), .d (.v (.int _ s))], H => match Si x H, Uk l H, Vg g H with
  | some (N, f1), some (lv, f2), some (grp, f3) => some (⟨N, lv, grp, q, s⟩, [], f1 ++ (f2 ++ f3))
  | _, _, _ => none
 | _, _ => none
theorem p54 (a : PvA) (h1 : AC a.N = 0) (h2 : a.lv.length = a.N.g.length) (h3 : a.grp.length = a.N.g.length) : V54 a := by
 have hg := AS h1
 have hg8 := hg.g8
 have hr14 := hg.r14
 rw [vc54]; (conv => zeta); simp only [CC, eq_self, implies_true, forall_const]
 refine ⟨⟨0, ⟨rfl, rfl⟩, Nat.zero_le _⟩, λ i hi => ⟨λ hlt => ?_, λ hge => ⟨⟨0, ⟨?_, rfl⟩, Nat.zero_le _⟩, λ j hj => ⟨λ hlt => ⟨⟨by omega, by omega⟩, λ hb => ⟨λ hs => ⟨⟨⟨by omega, by omega⟩, by omega, by omega⟩, ⟨j + 1, ⟨?_, (AN (by omega)).symm⟩, by omega, by omega⟩⟩, λ hs => ⟨j + 1, ⟨?_, (AN (by omega)).symm⟩, by omega, by omega⟩⟩, λ hb => ⟨λ hs => ⟨⟨⟨by omega, by omega⟩, by omega, by omega⟩, ⟨j + 1, ⟨?_, (AN (by omega)).symm⟩, by omega, by omega⟩⟩, λ hs => ⟨j + 1, ⟨?_, (AN (by omega)).symm⟩, by omega, by omega⟩⟩⟩, λ hge => ?_⟩⟩⟩⟩
 ·obtain ⟨_, b1, b2, _⟩ := hg.r i (by omega)
  refine ⟨λ hs => ⟨⟨⟨by omega, by omega⟩, ⟨by omega, by omega⟩, ⟨by omega, by omega⟩, ⟨by omega, by omega⟩, by omega, by omega⟩, ⟨i + 1, ⟨?_, (AN (by omega)).symm⟩, by omega, by omega⟩⟩, λ hs => ⟨i + 1, ⟨?_, (AN (by omega)).symm⟩, by omega, by omega⟩⟩
  ·simp only [Gd, hs, cond_true]; rfl
  ·simp only [Gd, hs, cond_false]
 ·have : i = a.N.r.length := by omega
  rw [this]; rfl
 ·simp only [KN, hs, cond_true, Xy, hb]
 ·simp only [KN, hs, cond_false]
 ·simp only [KN, hs, cond_true, Xy, hb, cond_false]
 ·simp only [KN, hs, cond_false]
 ·have : j = a.N.g.length := by omega
  rw [this]
theorem Wv : AI Try.prog 54 (C54.spec d54) := HQ C54 A54 [] [] Try.func54 (λ _ => by kernel_rfl) (λ _ => AA ok84 AF) (λ a h => p54 a h.1 h.2.1 h.2.2) (λ _ => IL rfl rfl) _
def A23 (a : NPL) : Ann := { ann 69 [(45, C45.spec QO), (60, s60), (54, C54.spec d54)] with loops := λ id => if id = 7 then some [{ α := Nat, dflt := 0, T := λ i => ⟨[(1, .int a.price), (2, .d (AW a.lv)), (3, .bptr 203 0), (9, .int i)], [(203, EZ a.N)]⟩, inv := λ i => i <= a.lv.length /\ AC a.N = 0 /\ a.lv.length = a.N.g.length /\ ∀ j, j < i -> inM (gD a.lv j) (-1) 1 = true, meas := λ i => a.lv.length - i, first := [(203, 1000)] }] else if id = 12 then some [{ α := Nat, dflt := 0, T := λ i => ⟨[(1, .int a.price), (2, .d (AW a.lv)), (3, .bptr 203 0), (10, .int i)], [(203, EZ a.N)]⟩, inv := λ i => i <= a.N.r.length /\ AC a.N = 0 /\ a.lv.length = a.N.g.length /\ (∀ j, j < a.lv.length -> inM (gD a.lv j) (-1) 1 = true) /\ ∀ j, j < i -> ER a.lv (gD a.N.r j) = true, meas := λ i => a.N.r.length - i }] else none }
def AV (N : NetL) : List Bool := List.replicate N.g.length false
def C23 : Ctr := { α := NPL, xs := Yt, L := λ _ => [], val := λ a => .tup [.bool (decide (DW a = 0) && decide (a.price <= KN ⟨a.N, a.lv, AV a.N, 0, -1⟩ a.N.g.length)), .int (DW a)], keep := λ _ => [], pre := λ a => [a.lv.length < 4611686018427387904, a.N.g.length <= 1000000 /\ a.N.r.length <= 1000000] }
def V23 (a : NPL) : Prop := BC Try.prog (A23 a) Try.f23 (AH Try.f23) (C23.xs a) (AE []) (C23.val a) (C23.keep a) [] []
theorem vc23 (a : NPL) : (V23 a) = (let q := a
 let y0 : List Span := AD q.N.g.length λ (i : Nat) => gD q.N.g i
 let y1 := y0.length
 let y2 := y1 = q.N.g.length
 let y3 (i : Nat) : Span := gD y0 i
 let y4 := ∀ (i : Nat), i < y1 -> (y3 i).lo = (gD q.N.g i).lo /\ (y3 i).hi = (gD q.N.g i).hi
 let y5 : List Reach := AD q.N.r.length λ (i : Nat) => gD q.N.r i
 let y6 := y5.length
 let y7 := y6 = q.N.r.length
 let y8 (i : Nat) : Reach := gD y5 i
 let y9 (i : Nat) : Span := (y8 i).sp
 let y10 := ∀ (i : Nat), i < y6 -> (y8 i).fr = (gD q.N.r i).fr /\ (y8 i).to = (gD q.N.r i).to /\ (y9 i).lo = (gD q.N.r i).sp.lo /\ (y9 i).hi = (gD q.N.r i).sp.hi
 let y11 : NetL := NetL.mk y0 y5
 let y12 := AC y11
 let y13 := decide (DW q = (0 : Int)) && decide (q.price <= KN (PvA.mk q.N q.lv (AV q.N) (0 : Int) (-1 : Int)) q.N.g.length)
 let y14 := y13 = false
 let y15 := y14 /\ DW q = (2 : Int)
 let y16 := q.lv.length = q.lv.length
 let y17 := ∀ (i : Nat), i < q.lv.length -> gD q.lv i = gD q.lv i
 let y18 := q.N.g.length = q.N.g.length /\ (∀ (i : Nat), i < q.N.g.length -> (gD q.N.g i).lo = (gD q.N.g i).lo /\ (gD q.N.g i).hi = (gD q.N.g i).hi) /\ q.N.r.length = q.N.r.length /\ ∀ (i : Nat), i < q.N.r.length -> (gD q.N.r i).fr = (gD q.N.r i).fr /\ (gD q.N.r i).to = (gD q.N.r i).to /\ (gD q.N.r i).sp.lo = (gD q.N.r i).sp.lo /\ (gD q.N.r i).sp.hi = (gD q.N.r i).sp.hi
 let y19 (a1 : Nat) := q.price = q.price /\ y16 /\ y17 /\ (↑a1 : Int) = (0 : Int) /\ y18
 let y20 := AC q.N = (0 : Int)
 let y21 := q.lv.length = q.N.g.length
 let y22 (j : Nat) := inM (gD q.lv j) (-1 : Int) (1 : Int)
 let y23 (j : Nat) := y22 j = true
 let y24 (a : Nat) := a <= q.lv.length /\ y20 /\ y21 /\ ∀ (j : Nat), j < a -> y23 j
 let y25 (a : Nat) := (↑a : Int) < (↑q.lv.length : Int)
 let y26 (a : Nat) := (0 : Int) <= (↑a : Int)
 let y27 (a1 : Nat) (a2 : Nat) := q.price = q.price /\ y16 /\ y17 /\ (↑a1 : Int) = IntKind.i64.wrap ((↑a2 : Int) + (1 : Int)) /\ y18
 let y28 (a1 : Nat) := q.lv.length - a1
 let y29 (a : Nat) := a <= q.N.r.length /\ y20 /\ y21 /\ (∀ (j : Nat), j < q.lv.length -> y23 j) /\ ∀ (j : Nat), j < a -> ER q.lv (gD q.N.r j) = true
 let y30 (a : Nat) := (↑a : Int) < (↑q.N.r.length : Int)
 let y31 (a : Nat) := y26 a /\ y30 a
 let y32 (a1 : Nat) := q.N.r.length - a1
 let y33 : List Int := AD q.lv.length λ (i : Nat) => gD q.lv i
 let y34 := y33.length
 let y35 : List Bool := AD q.N.g.length λ (i : Nat) => false
 let y36 := y35.length
 ((y2 /\ y4 /\ y7 /\ y10 /\ y1 <= (1000000 : Nat) /\ y6 <= (1000000 : Nat)) /\ bif y12 != (0 : Int) then y14 /\ DW a = y12 else bif (↑a.lv.length :
 Int) != (↑a.N.g.length : Int) then y15 else (∃ (a_1 : Nat), y19 a_1 /\ y24 a_1) /\ ∀ (a_1 : Nat), y24 a_1 -> bif decide (y25 a_1) then (y26 a_1 /\ y25 a_1) /\ bif !y22 a_1 then y15
 else ∃ (a_3 : Nat), y27 a_3 a_1 /\ y24 a_3 /\ y28 a_3 < y28 a_1 else (∃ (a_3 : Nat), y19 a_3 /\ y29 a_3) /\ ∀ (a_3 : Nat), y29 a_3 -> bif decide (y30 a_3) then (y31 a_3 /\ ((0 :
 Int) <= (gD a.N.r a_3).to /\ (gD a.N.r a_3).to < (↑a.lv.length : Int)) /\ y31 a_3 /\ (0 : Int) <= (gD a.N.r a_3).fr /\ (gD a.N.r a_3).fr < (↑a.lv.length : Int)) /\ bif !inM (IntKind.i64.wrap (gD a.lv (gD a.N.r
 a_3).to.toNat - gD a.lv (gD a.N.r a_3).fr.toNat)) (-1 : Int) (1 : Int) then y15 else ∃ (a_5 : Nat), y27 a_5 a_3 /\ y29 a_5 /\ y32 a_5 < y32 a_3 else (((0 : Int) <= (↑a.N.g.length : Int) /\
 (↑a.N.g.length : Int) = (↑a.N.g.length : Int) /\ (↑a.N.g.length : Int) <= (9223372036854775807 : Int) /\ (↑(1 : Nat) : Int) * (↑a.N.g.length : Int) <= (281474976710656 : Int)) /\ y2 /\ y4 /\ y7 /\ y10 /\
 y34 = a.lv.length /\ (∀ (i : Nat), i < y34 -> gD y33 i = gD a.lv i) /\ y36 = a.N.g.length /\ (0 : Nat) + a.N.g.length <= a.N.g.length /\ (∀ (j : Nat), j < y36 -> gD y35 j = false) /\ (0 : Int) =
 Int.ofNat (0 : Nat) /\ (-1 : Int) = Int.negSucc (0 : Nat) /\ y12 = (0 : Int) /\ y34 = y1 /\ y36 = y1) /\ y13 = decide (KN (PvA.mk y11 y33 y35 (0 : Int) (-1 : Int)) y1
 >= a.price) /\ DW a = (0 : Int))) := by kernel_rfl
theorem Sw (n : Nat) : AD n (λ _ => false) = List.replicate n false := by
 apply JX
 ·simp
 ·intro i hi
  simp only [rng_length] at hi
  rw [Jg _ _ _ hi, CM, if_pos hi]
theorem p23 (a : NPL) (h1 : a.lv.length < 4611686018427387904) (h2 : a.N.g.length <= 1000000 /\ a.N.r.length <= 1000000) : V23 a := by
 have et : NetL.mk a.N.g a.N.r = a.N := rfl
 have en : AD a.N.g.length (λ _ => false) = AV a.N := Sw _
 have e2 : AC a.N = 0 -> HA a.N a.lv = false -> DW a = 2 := λ h h' => by unfold DW; rw [if_pos h, h']; rfl
 have f2 : ∀ x y : Bool, (DW a = 2) -> ((decide (DW a = 0) && decide (a.price <= KN ⟨a.N, a.lv, AV a.N, 0, -1⟩ a.N.g.length)) = false /\ DW a = 2) := λ _ _ h => ⟨by rw [h]; rfl, h⟩
 rw [vc23]; (conv => zeta); simp only [CC, eq_self, implies_true, forall_const, et, en]
 refine ⟨h2, λ hc => ?_, λ hc => ?_⟩
 ·have hc : AC a.N ≠ 0 := by simpa using hc
  have : DW a = AC a.N := by unfold DW; rw [if_neg hc]
  rw [this, decide_eq_false hc]; exact ⟨rfl, rfl⟩
 ·have hc : AC a.N = 0 := by simpa using hc
  have hg := AS hc
  refine ⟨λ hl => ?_, λ hl => ?_⟩
  ·have hl : ¬ a.lv.length = a.N.g.length := by
    intro h; rw [h] at hl; simp at hl
   refine f2 true true (e2 hc ?_)
   cases h : HA a.N a.lv with
   | false => rfl
   | true => exact absurd (FW.1 h).1 hl
  ·have hl : a.lv.length = a.N.g.length := by
    have : ((a.lv.length : Int)) = a.N.g.length := by simpa using hl
    omega
   refine ⟨⟨0, rfl, Nat.zero_le _, hc, hl, λ j hj => absurd hj (Nat.not_lt_zero _)⟩, λ i ⟨q1, _, _, q2⟩ => ⟨λ hlt => ⟨⟨by omega, by omega⟩, λ hb => ?_, λ hb => ⟨i + 1, (AN (by omega)).symm, ⟨by omega, hc, hl, λ j hj => ?_⟩, by omega⟩⟩, λ hge => ⟨⟨0, rfl, Nat.zero_le _, hc, hl, λ j hj => q2 j (by omega), λ j hj => absurd hj (Nat.not_lt_zero _)⟩, λ k ⟨w1, _, _, w2, w3⟩ => ⟨λ hlt => ?_, λ hge => ?_⟩⟩⟩⟩
   ·refine f2 true true (e2 hc ?_)
    cases h : HA a.N a.lv with
    | false => rfl
    | true =>
     have := (FW.1 h).2.1 i (by omega)
     rw [BI.2 this] at hb; cases hb
   ·by_cases h : j = i
    ·subst h; exact hb
    ·exact q2 j (by omega)
   ·obtain ⟨_, b1, b2, _⟩ := hg.r k (by omega)
    refine ⟨⟨⟨by omega, by omega⟩, ⟨by omega, by omega⟩, ⟨by omega, by omega⟩, by omega, by omega⟩, λ hb => ?_, λ hb => ⟨k + 1, (AN (by omega)).symm, ⟨by omega, hc, hl, w2, λ j hj => ?_⟩, by omega⟩⟩
    ·refine f2 true true (e2 hc ?_)
     cases h : HA a.N a.lv with
     | false => rfl
     | true =>
      have := (FW.1 h).2.2 k (by omega)
      have hb : inM (KY a.lv (gD a.N.r k)) (-1) 1 = false := hb
      rw [BI.2 this] at hb; cases hb
    ·by_cases h : j = k
     ·subst h; exact hb
     ·exact w3 j (by omega)
   ·have hv : HA a.N a.lv = true := FW.2 ⟨hl, λ j hj => BI.1 (w2 j hj), λ j hj => BI.1 (w3 j (by omega))⟩
    have hp : DW a = 0 := by unfold DW; rw [if_pos hc, hv]; rfl
    have hg8 := hg.g8
    have nl : (AV a.N).length = a.N.g.length := by simp [AV]
    refine ⟨⟨⟨by omega, by omega, by omega⟩, nl, Nat.le_refl _, λ j hj => ?_, rfl, rfl, hc, hl, nl⟩, ?_, hp⟩
    ·rw [nl] at hj; simp [AV, CM, hj]
    ·rw [hp]; rfl
theorem ok23 : AI Try.prog 23 (C23.spec dP) := HQ C23 A23 [] [] Try.func23 (λ _ => by kernel_rfl) (λ _ => AA Uf (AA So (AA Wv AF))) (λ a h => p23 a h.1 h.2) (λ _ => IL rfl rfl) _
end Go.Bal

namespace Go.Bal
open Go Go.Sym Go.Proofs
def Hy (N : NetL) : LvA := ⟨N, AV N, 0⟩
def AQ (N : NetL) : List (List Int) := AR (Hy N) N.g.length
def QE (N : NetL) (k : Nat) (skip : Int) : Int := KN ⟨N, gD (AQ N) k, AV N, 0, skip⟩ N.g.length
def Fz (N : NetL) : Nat -> Int
 | 0 => 0
 | k + 1 => bif decide (QE N k (-1) > Fz N k) then QE N k (-1) else Fz N k
def BU (N : NetL) : Int := if AC N = 0 then Fz N (AQ N).length else 0
def A18 (N : NetL) : Ann := { ann 40 [(45, C45.spec QO), (53, C53.spec d53), (54, C54.spec d54)] with cutIn := λ gs id => if id = 5 then some [{ α := One, dflt := default, T := λ _ => ⟨[(1, .bptr 203 0), (5, .d (HK (AV N)))], [(203, EZ N)]⟩, inv := λ _ => AC N = 0, meas := λ _ => 0, first := [(203, 1000)], ffz := [5048] }] else none, loops := λ id => if id = 8 then some [{ α := Nat, dflt := 0, T := λ k => ⟨[(1, .bptr 203 0), (5, .d (HK (AV N))), (6, .d (eLL (AQ N))), (7, .int (Fz N k)), (8, .int k)], [(203, EZ N)]⟩, inv := λ k => AC N = 0 /\ k <= (AQ N).length, meas := λ k => (AQ N).length - k }] else none }
def C18 : Ctr := { α := NetL, xs := Yg, val := λ N => .tup [.int (BU N), .int (AC N)], pre := λ N => [N.g.length <= 1000000 /\ N.r.length <= 1000000] }
def V18 (N : NetL) : Prop := BC Try.prog (A18 N) Try.f18 (AH Try.f18) (C18.xs N) (AE []) (C18.val N) (C18.keep N) [] []
abbrev z18_0 (N : NetL) : List Span := AD N.g.length λ (i : Nat) => gD N.g i
abbrev z18_1 (N : NetL) : Nat := (z18_0 N).length
abbrev z18_2 (N : NetL) : Prop := z18_1 N = N.g.length
abbrev z18_3 (N : NetL) (i : Nat) : Span := gD (z18_0 N) i
abbrev z18_4 (N : NetL) : Prop := ∀ (i : Nat), i < z18_1 N -> (z18_3 N i).lo = (gD N.g i).lo /\ (z18_3 N i).hi = (gD N.g i).hi
abbrev z18_5 (N : NetL) : List Reach := AD N.r.length λ (i : Nat) => gD N.r i
abbrev z18_6 (N : NetL) : Nat := (z18_5 N).length
abbrev z18_7 (N : NetL) : Prop := z18_6 N = N.r.length
abbrev z18_8 (N : NetL) (i : Nat) : Reach := gD (z18_5 N) i
abbrev z18_9 (N : NetL) (i : Nat) : Span := (z18_8 N i).sp
abbrev z18_10 (N : NetL) : Prop := ∀ (i : Nat), i < z18_6 N -> (z18_8 N i).fr = (gD N.r i).fr /\ (z18_8 N i).to = (gD N.r i).to /\ (z18_9 N i).lo = (gD N.r i).sp.lo /\ (z18_9 N i).hi = (gD N.r i).sp.hi
abbrev z18_11 (N : NetL) : NetL := NetL.mk (z18_0 N) (z18_5 N)
abbrev z18_12 (N : NetL) : Int := AC (z18_11 N)
abbrev z18_13 (N : NetL) : Prop := N.g.length = N.g.length /\ (∀ (i : Nat), i < N.g.length -> (gD N.g i).lo = (gD N.g i).lo /\ (gD N.g i).hi = (gD N.g i).hi) /\ N.r.length = N.r.length /\ ∀ (i : Nat), i < N.r.length -> (gD N.r
 i).fr = (gD N.r i).fr /\ (gD N.r i).to = (gD N.r i).to /\ (gD N.r i).sp.lo = (gD N.r i).sp.lo /\ (gD N.r i).sp.hi = (gD N.r i).sp.hi
abbrev z18_14 (N : NetL) : List Bool := AD (AV N).length λ (i : Nat) => gD (AV N) i
abbrev z18_15 (N : NetL) : Nat := (z18_14 N).length
abbrev z18_16 (N : NetL) : Prop := z18_15 N = (AV N).length
abbrev z18_17 (N : NetL) : Prop := ∀ (i : Nat), i < z18_15 N -> gD (z18_14 N) i = gD (AV N) i
abbrev z18_18 : Prop := (0 : Int) = Int.ofNat (0 : Nat)
abbrev z18_19 (N : NetL) : Prop := z18_12 N = (0 : Int)
abbrev z18_20 (N : NetL) : Prop := z18_15 N = z18_1 N
abbrev z18_21 (N : NetL) : Prop := (AV N).length = (AV N).length
abbrev z18_22 (N : NetL) : Prop := ∀ (i : Nat), i < (AV N).length -> gD (AV N) i = gD (AV N) i
abbrev z18_23 (N : NetL) : List (List Int) := AR (LvA.mk (z18_11 N) (z18_14 N) (0 : Int)) (z18_1 N)
abbrev z18_24 (N : NetL) (i : Nat) : Nat := (gD (AQ N) i).length
abbrev z18_25 (N : NetL) (i : Nat) : List Int := gD (z18_23 N) i
abbrev z18_26 (i : Nat) (N : NetL) (i1 : Nat) : Prop := i < z18_24 N i1
abbrev z18_27 (N : NetL) (i : Nat) (i1 : Nat) : Int := gD (gD (AQ N) i) i1
abbrev z18_28 (N : NetL) (a : Nat) : Prop := AC N = (0 : Int) /\ a <= (AQ N).length
abbrev z18_29 (a : Nat) (N : NetL) : Prop := (↑a : Int) < (↑(AQ N).length : Int)
abbrev z18_30 (N : NetL) (a : Nat) : List Int := AD (z18_24 N a) λ (i : Nat) => z18_27 N a i
abbrev z18_31 (N : NetL) (a : Nat) : Nat := (z18_30 N a).length
abbrev z18_32 (N : NetL) (a : Nat) : Int := KN (PvA.mk (z18_11 N) (z18_30 N a) (z18_14 N) (0 : Int) (-1 : Int)) (z18_1 N)
abbrev z18_33 (N : NetL) : Prop := (AQ N).length = (AQ N).length
abbrev z18_34 (N : NetL) : Prop := ∀ (i : Nat), i < (AQ N).length -> z18_24 N i = z18_24 N i /\ ∀ (i_1 : Nat), z18_26 i_1 N i -> z18_27 N i i_1 = z18_27 N i i_1
abbrev z18_35 (a : Nat) (a1 : Nat) (N : NetL) : Prop := (↑a : Int) = IntKind.i64.wrap ((↑a1 : Int) + (1 : Int)) /\ z18_13 N
abbrev z18_36 (N : NetL) (a : Nat) : Nat := (AQ N).length - a
abbrev z18_37 (N : NetL) (a : Nat) (a1 : Nat) : Prop := z18_28 N a /\ z18_36 N a < z18_36 N a1
theorem vc18 (N : NetL) : (V18 N) = ((z18_2 N /\ z18_4 N /\ z18_7 N /\ z18_10 N /\ z18_1 N <= (1000000 : Nat) /\ z18_6 N <= (1000000 : Nat)) /\ bif z18_12 N != (0 : Int) then BU N = (0 : Int) /\ AC N = z18_12 N else (((0
 : Int) <= (↑N.g.length : Int) /\ (↑N.g.length : Int) = (↑N.g.length : Int) /\ (↑N.g.length : Int) <= (9223372036854775807 : Int) /\ (↑(1 : Nat) : Int) * (↑N.g.length : Int) <= (281474976710656 : Int)) /\ ∃ (a : One), ((AV
 N).length = N.g.length /\ (0 : Nat) + N.g.length <= N.g.length /\ (∀ (j : Nat), j < (AV N).length -> gD (AV N) j = false) /\ z18_13 N) /\ AC N = (0 : Int)) /\ ∀ (a : One), AC N = (0 : Int) -> (z18_2 N /\ z18_4 N /\
 z18_7 N /\ z18_10 N /\ z18_16 N /\ z18_17 N /\ z18_18 /\ z18_19 N /\ z18_20 N /\ (-1 : Int) <= (0 : Int) /\ (0 : Int) <= (1 : Int)) /\ (∃ (a : Nat), (z18_21 N /\ z18_22 N /\ (AQ N).length = (z18_23 N).length /\ (∀ (i : Nat), i <
 (AQ N).length -> z18_24 N i = (z18_25 N i).length /\ ∀ (i_1 : Nat), z18_26 i_1 N i -> z18_27 N i i_1 = gD (z18_25 N i) i_1) /\ Fz N a = (0 : Int) /\ (↑a : Int) = (0 : Int) /\ z18_13 N) /\ z18_28 N a) /\ ∀ (a : Nat), z18_28 N
 a -> bif decide (z18_29 a N) then (((0 : Int) <= (↑a : Int) /\ z18_29 a N) /\ z18_2 N /\ z18_4 N /\ z18_7 N /\ z18_10 N /\ z18_31 N a = z18_24 N a /\ (∀ (i : Nat), i < z18_31 N a -> gD (z18_30 N a) i = z18_27 N a i) /\ z18_16 N /\
 z18_17 N /\ z18_18 /\ (-1 : Int) = Int.negSucc (0 : Nat) /\ z18_19 N /\ z18_31 N a = z18_1 N /\ z18_20 N) /\ bif decide (z18_32 N a > Fz N a) then ∃ (a_2 : Nat), (z18_21 N /\ z18_22 N /\ z18_33 N /\ z18_34 N /\ Fz N a_2 = z18_32
 N a /\ z18_35 a_2 a N) /\ z18_37 N a_2 a else ∃ (a_2 : Nat), (z18_21 N /\ z18_22 N /\ z18_33 N /\ z18_34 N /\ Fz N a_2 = Fz N a /\ z18_35 a_2 a N) /\ z18_37 N a_2 a else BU N = Fz N a /\ AC N = (0 : Int)) := by
 kernel_rfl
theorem p18 (N : NetL) (h1 : N.g.length <= 1000000 /\ N.r.length <= 1000000) : V18 N := by
 rw [vc18]; delta z18_0 z18_1 z18_2 z18_3 z18_4 z18_5 z18_6 z18_7 z18_8 z18_9 z18_10 z18_11 z18_12 z18_13 z18_14 z18_15 z18_16 z18_17 z18_18 z18_19 z18_20 z18_21 z18_22 z18_23 z18_24 z18_25 z18_26 z18_27 z18_28 z18_29 z18_30 z18_31 z18_32 z18_33 z18_34 z18_35 z18_36 z18_37; simp only [CC, eq_self, implies_true, forall_const]
 have et : NetL.mk N.g N.r = N := rfl
 have nl : (AV N).length = N.g.length := by simp [AV]
 have ea : AR (LvA.mk N (AV N) 0) N.g.length = AQ N := rfl
 simp only [et, ea]
 refine ⟨h1, λ hc => ?_, λ hc => ?_⟩
 ·have hc : AC N ≠ 0 := by simpa using hc
  exact if_neg hc
 ·have hc : AC N = 0 := by simpa using hc
  have hg8 := (AS hc).g8
  refine ⟨⟨⟨by omega, by omega, by omega⟩, ⟨0⟩, ⟨nl, Nat.le_refl _, λ j hj => ?_⟩, hc⟩, λ _ => ⟨⟨rfl, hc, nl, by decide, by decide⟩, ⟨0, ⟨trivial, λ _ _ => ⟨trivial, λ _ _ => trivial⟩, rfl, rfl⟩, hc, Nat.zero_le _⟩, λ k ⟨_, hk⟩ => ?_⟩⟩
  ·rw [nl] at hj; simp [AV, CM, hj]
  ·have hb : (AQ N).length <= 6561 := QX (Hy N) hg8
   refine ⟨λ hlt => ⟨⟨⟨by omega, hlt⟩, rfl, rfl, hc, NP (Hy N) (s := N.g.length) (k := k) (by show k < (AQ N).length; omega), nl⟩, λ hgt => ⟨k + 1, ⟨?_, (AN (by omega)).symm⟩, ⟨hc, by omega⟩, by omega⟩, λ hgt => ⟨k + 1, ⟨?_, (AN (by omega)).symm⟩, ⟨hc, by omega⟩, by omega⟩⟩, λ hge => ⟨?_, hc⟩⟩
   ·have hgt : QE N k (-1) > Fz N k := hgt
    simp only [Fz, decide_eq_true hgt, cond_true]; rfl
   ·have hgt : ¬ QE N k (-1) > Fz N k := hgt
    simp only [Fz, decide_eq_false hgt, cond_false]
   ·have : k = (AQ N).length := by omega
    rw [this]; exact if_pos hc
theorem ok18 : AI Try.prog 18 (C18.spec dN) := HQ C18 A18 [] [] Try.func18 (λ _ => by kernel_rfl) (λ _ => AA Uf (AA Yw (AA Wv AF))) (λ a h => p18 a h) (λ _ => IL rfl rfl) _
end Go.Bal
