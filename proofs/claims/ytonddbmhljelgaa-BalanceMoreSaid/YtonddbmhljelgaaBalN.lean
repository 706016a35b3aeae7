/- Package balance: Spans, Reached. -/
import Derived.Test.YtonddbmhljelgaaBalL
set_option linter.unusedVariables false
set_option linter.unusedSimpArgs false
namespace Go.Bal
open Go Go.Sym Go.Proofs
def LO (d : Desk) : List Span := (List.range d.all.length).map λ (i : Nat) => (EI d i).getD default
def Ok (n : Nat) (l : List Span) : HCell := .live (.row 2 n λ i => JU (gD l i))
def Yz (N : NetL) : List (Nat × HCell) := [(301, .live (TY (AA N) 302)), (302, .live (UE (AA N)))]
def Za (N : NetL) (a b : AVal) (k : Nat) : List (Nat × AVal) := [(2, a), (3, b), (5, .bptr 301 0), (21, .int (AA N).all.length), (22, .int k)]
def KT (N : NetL) : List Span := (LO (AA N)).take (AA N).nR
def KV (N : NetL) : List Span := (LO (AA N)).drop (AA N).nR
def A34 (N : NetL) : Ann := { ann 45 [(73, C73.spec XP), (74, C74.spec dDI)] with mt := λ id => id == 9 || id == 10, loops := λ id => if id = 5 then some [{ α := Nat, dflt := 0, T := λ k => ⟨Za N (.d HX) (.d HX) k, Yz N⟩, inv := λ k => k = 0, meas := λ k => (AA N).all.length - k, first := [(301, 2016), (302, 2017)] }, { α := Nat, dflt := 0, T := λ k => ⟨Za N (.own 210 2 0 k) (.d HX) k, Yz N ++ [(210, Ok k (KT N))]⟩, inv := λ k => 0 < k /\ k <= (AA N).nR, meas := λ k => (AA N).all.length - k, again := [(210, 10048)] }, { α := Nat, dflt := 0, T := λ k => ⟨Za N (.own 210 2 0 (AA N).nR) (.own 211 2 0 (k - (AA N).nR)) k, Yz N ++ [(210, Ok (AA N).nR (KT N)), (211, Ok (k - (AA N).nR) (KV N))]⟩, inv := λ k => (AA N).nR < k /\ k <= (AA N).all.length, meas := λ k => (AA N).all.length - k, again := [(211, 11048)] }, { α := Nat, dflt := 0, T := λ k => ⟨Za N (.d HX) (.own 211 2 0 k) k, Yz N ++ [(211, Ok k (KV N))]⟩, inv := λ k => (AA N).nR = 0 /\ 0 < k /\ k <= (AA N).all.length, meas := λ k => (AA N).all.length - k, again := [(211, 11048)] }] else none }
def KK (l : List Span) : AVal := .d (DV l)
def C34 : Ctr := { α := NetL, xs := λ N => [.d (EZ N)], L := λ _ => [], val := λ N => .tup [KK (KT N), KK (KV N), .int 0], keep := λ _ => [], pre := λ N => [AD N = 0, (AT N).isSome = true, ¬ 0 < CJ N, ∀ i : Nat, i < (AA N).all.length -> (EI (AA N) i).isSome = true] }
def V34 (N : NetL) : Prop := BM Try.prog (A34 N) Try.f34 (AJ Try.f34) (C34.xs N) (AE (C34.L N)) (C34.val N) (C34.keep N) [] [210, 211]
theorem vc34 (N : NetL) : (V34 N) = (let q := N
 let y0 : List Span := AC q.g.length λ (i : Nat) => gD q.g i
 let y1 := y0.length
 let y2 (i : Nat) : Span := gD y0 i
 let y3 : List Reach := AC q.r.length λ (i : Nat) => gD q.r i
 let y4 := y3.length
 let y5 (i : Nat) : Reach := gD y3 i
 let y6 (i : Nat) : Span := (y5 i).sp
 let y7 : NetL := NetL.mk y0 y3
 let y8 := (0 : Nat) = (0 : Nat)
 let y9 := ∀ (i : Nat), i < (0 : Nat) -> false = false
 let y10 : Desk := AA y7
 let y11 : List Way := y10.all
 let y12 := y11.length
 let y13 := (AA q).all.length = y12
 let y14 (i : Nat) : Way := gD y11 i
 let y15 (i : Nat) : Span := (y14 i).sp
 let y16 (a : Nat) := decide ((↑a : Int) < (↑(AA q).all.length : Int))
 let y17 : List Way := AC (AA q).all.length λ (i : Nat) => gD (AA q).all i
 let y18 := y17.length
 let y19 := y18 = (AA q).all.length
 let y20 := (↑(AA q).out : Int) = (↑(AA q).out : Int)
 let y21 := (↑(AA q).nR : Int) = (↑(AA q).nR : Int)
 let y22 (i : Nat) : Way := gD y17 i
 let y23 (i : Nat) := (y22 i).fr
 let y24 (i : Nat) := (y22 i).to
 let y25 (i : Nat) : Span := (y22 i).sp
 let y26 (i : Nat) := (y25 i).lo
 let y27 (i : Nat) := (y25 i).hi
 let y28 (i : Nat) := (y22 i).now
 let y29 := (AA q).all.length = y18
 let y30 : Desk := Desk.mk y17 (AA q).out (AA q).nR
 let y31 (a : Nat) : Option Span := EI y30 (↑a : Int)
 let y32 (a : Nat) := (↑a : Int) = (↑a : Int) /\ y8 /\ y19 /\ y20 /\ y21 /\ y19 /\ (∀ (i : Nat), i < y18 -> y23 i = (gD (AA q).all i).fr /\ y24 i = (gD (AA q).all i).to /\ y26 i = (gD (AA q).all i).sp.lo /\ y27 i = (gD (AA q).all i).sp.hi /\ y28 i = (gD (AA q).all i).now) /\ y8 /\ y29 /\ y20 /\ y21 /\ y29 /\ (∀ (i : Nat), i < (AA q).all.length -> (gD (AA q).all i).fr = y23 i /\ (gD (AA q).all i).to = y24 i /\ (gD (AA q).all i).sp.lo = y26 i /\ (gD (AA q).all i).sp.hi = y27 i /\ (gD (AA q).all i).now = y28 i) /\ y30.ok /\ ((0 : Int) <= (↑a : Int) /\ (↑a : Int) < (↑y18 : Int)) /\ (y31 a).isSome = true
 let y33 (a : Nat) := decide ((↑a : Int) < (↑(AA q).nR : Int))
 let y34 := (0 : Nat) < (1 : Nat)
 let y35 := (2 : Nat) = (2 : Nat)
 let y36 := (1 : Nat) <= (1 : Nat) /\ (y34 -> y35)
 let y37 := (True /\ ((0 : Nat) < (0 : Nat) -> (0 : Nat) = (2 : Nat))) /\ y36 /\ (true = true -> y34) /\ (1 : Nat) <= (9223372036854775807 : Nat) /\ (16 : Nat) <= (140737488355328 : Nat)
 let y38 := (↑(AA q).all.length : Int) = (↑(AA q).all.length : Int)
 let y39 (a : Nat) (a1 : Nat) := (↑a : Int) = IntKind.i64.wrap ((↑a1 : Int) + (1 : Int))
 let y40 := (AA q).all.length = (AA q).all.length
 let y41 := ∀ (i : Nat), i < (AA q).all.length -> (gD (AA q).all i).fr = (gD (AA q).all i).fr /\ (gD (AA q).all i).to = (gD (AA q).all i).to /\ (gD (AA q).all i).sp.lo = (gD (AA q).all i).sp.lo /\ (gD (AA q).all i).sp.hi = (gD (AA q).all i).sp.hi /\ (gD (AA q).all i).now = (gD (AA q).all i).now
 let y42 (a : Nat) : Span := (y31 a).getD default
 let y43 (a : Nat) := (y42 a).lo
 let y44 (a : Nat) := (y42 a).hi
 let y45 (a : Nat) := (0 : Nat) < a /\ a <= (AA q).nR
 let y46 (a : Nat) := (AA q).all.length - a
 let y47 (a : Nat) (a1 : Nat) := y46 a < y46 a1
 let y48 (a : Nat) (a1 : Nat) := y45 a /\ y47 a a1
 let y49 (i : Nat) (a : Nat) := (gD (KV q) i).lo = y43 a /\ (gD (KV q) i).hi = y44 a
 let y50 (a : Nat) := (AA q).nR = (0 : Nat) /\ (0 : Nat) < a /\ a <= (AA q).all.length
 let y51 (a : Nat) (a1 : Nat) := y50 a /\ y47 a a1
 let y52 := (KT q).length = (0 : Nat)
 let y53 := (KV q).length = (0 : Nat)
 let y54 := Int.ofNat (0 : Nat) = Int.ofNat (0 : Nat)
 let y55 := y53 /\ y53 /\ y54
 let y56 := false = true -> y34
 let y57 (a : Nat) := a + (1 : Nat)
 let y58 (a : Nat) := (a = a /\ ((0 : Nat) < a -> y35)) /\ y36 /\ y56 /\ y57 a <= (9223372036854775807 : Nat) /\ y57 a * (16 : Nat) <= (140737488355328 : Nat)
 let y59 (a : Nat) (a1 : Nat) := a = y57 a1
 let y60 (a : Nat) := a - (AA q).nR
 let y61 (a : Nat) := y60 a = (1 : Nat)
 let y62 := ∀ (i : Nat), i < (AA q).nR -> (gD (KT q) i).lo = (gD (KT q) i).lo /\ (gD (KT q) i).hi = (gD (KT q) i).hi
 let y63 (i : Nat) (a : Nat) := i < y60 a
 let y64 (a : Nat) := (AA q).nR < a /\ a <= (AA q).all.length
 let y65 (a : Nat) (a1 : Nat) := y64 a /\ y47 a a1
 let y66 (a : Nat) := (0 : Nat) + a
 let y67 (a : Nat) := y66 a <= a
 let y68 (j : Nat) : Span := gD (KT q) (y66 j)
 let y69 := ∀ (j : Nat), j < (KT q).length -> (gD (KT q) j).lo = (y68 j).lo /\ (gD (KT q) j).hi = (y68 j).hi
 let y70 := (AA q).nR + (1 : Nat)
 let y71 (a : Nat) := y60 a + (1 : Nat)
 let y72 (a : Nat) (a1 : Nat) := y60 a = y71 a1
 let y73 (i : Nat) (a : Nat) := decide (y63 i a)
 let y74 (j : Nat) : Span := gD (KV q) (y66 j)
 let y75 := (∀ (j : Nat), j < (KV q).length -> (gD (KV q) j).lo = (y74 j).lo /\ (gD (KV q) j).hi = (y74 j).hi) /\ y54
 ((y1 = N.g.length /\ (∀ (i : Nat), i < y1 -> (y2 i).lo = (gD N.g i).lo /\ (y2 i).hi = (gD N.g i).hi) /\ y4 = N.r.length /\ (∀ (i : Nat), i < y4 -> (y5 i).fr = (gD N.r i).fr /\ (y5 i).to = (gD N.r i).to /\ (y6 i).lo = (gD N.r i).sp.lo /\ (y6 i).hi = (gD N.r i).sp.hi) /\ AD y7 = (0 : Int) /\ (AT y7).isSome = true /\ ((0 : Int) < CJ
 y7 -> False)) /\ (∃ (a : Nat), (y8 /\ y9 /\ y8 /\ y9 /\ (↑(AA N).all.length : Int) = (↑y12 : Int) /\ (↑a : Int) = (0 : Int) /\ y8 /\ y13 /\ (↑(AA N).out : Int) = (↑y10.out : Int) /\
 (↑(AA N).nR : Int) = (↑y10.nR : Int) /\ y13 /\ ∀ (i : Nat), i < (AA N).all.length -> (gD (AA N).all i).fr = (y14 i).fr /\ (gD (AA N).all i).to = (y14 i).to /\ (gD (AA N).all i).sp.lo = (y15 i).lo /\ (gD (AA N).all i).sp.hi = (y15 i).hi /\ (gD (AA N).all i).now = (y14 i).now) /\ a = (0 : Nat)) /\ (∀ (a : Nat), a = (0 : Nat) -> bif y16 a then y32 a /\ bif y33 a then y37 /\ ∃ (a_2 :
 Nat), (y8 /\ a_2 = (1 : Nat) /\ y8 /\ y9 /\ y38 /\ y39 a_2 a /\ y8 /\ y40 /\ y20 /\ y21 /\ y40 /\ y41 /\ a_2 = (1 : Nat) /\ ∀ (i : Nat), i < a_2 -> (gD (KT N) i).lo = y43 a /\ (gD (KT
 N) i).hi = y44 a) /\ y48 a_2 a else y37 /\ ∃ (a_2 : Nat), (y8 /\ y9 /\ y8 /\ a_2 = (1 : Nat) /\ y38 /\ y39 a_2 a /\ y8 /\ y40 /\ y20 /\ y21 /\ y40 /\ y41 /\ a_2 = (1 : Nat) /\ ∀
 (i : Nat), i < a_2 -> y49 i a) /\ y51 a_2 a else y52 /\ y52 /\ y55) /\ (∀ (a : Nat), y45 a -> bif y16 a then y32 a /\ bif y33 a then y58 a /\ ∃ (a_2 : Nat), (y8 /\ y59 a_2 a /\
 y8 /\ y9 /\ y38 /\ y39 a_2 a /\ y8 /\ y40 /\ y20 /\ y21 /\ y40 /\ y41 /\ y59 a_2 a /\ ∀ (i : Nat), i < a_2 -> ((gD (KT N) i).lo = bif decide (i < a) then (gD (KT N) i).lo else y43 a) /\ (gD (KT N) i).hi = bif decide (i < a) then (gD (KT N) i).hi else y44 a) /\ y48 a_2 a else y37 /\ ∃ (a_2 : Nat), (y8 /\ (AA N).nR = a /\ y8 /\ y61 a_2 /\ y38 /\ y39 a_2 a /\ y8 /\ y40 /\ y20 /\ y21 /\ y40 /\ y41 /\ (AA N).nR = a /\ y62 /\ y61 a_2 /\ ∀ (i : Nat), y63 i a_2 -> y49 i a) /\ y65 a_2 a else (KT N).length = a /\ y67 a /\ y69 /\ y55) /\ (∀ (a :
 Nat), y64 a -> bif y16 a then y32 a /\ bif y33 a then (((AA N).nR = (AA N).nR /\ ((0 : Nat) < (AA N).nR -> y35)) /\ y36 /\ y56 /\ y70 <= (9223372036854775807 : Nat) /\ y70 * (16 : Nat)
 <= (140737488355328 : Nat)) /\ False else ((y60 a = y60 a /\ ((0 : Nat) < y60 a -> y35)) /\ y36 /\ y56 /\ y71 a <= (9223372036854775807 : Nat) /\ y71 a * (16 : Nat) <= (140737488355328 : Nat)) /\ ∃
 (a_2 : Nat), (y8 /\ (AA N).nR = (AA N).nR /\ y8 /\ y72 a_2 a /\ y38 /\ y39 a_2 a /\ y8 /\ y40 /\ y20 /\ y21 /\ y40 /\ y41 /\ (AA N).nR = (AA N).nR /\ y62 /\ y72 a_2 a /\
 ∀ (i : Nat), y63 i a_2 -> ((gD (KV N) i).lo = bif y73 i a then (gD (KV N) i).lo else y43 a) /\ (gD (KV N) i).hi = bif y73 i a then (gD (KV N) i).hi else y44 a) /\ y65 a_2 a else (KT
 N).length = (AA N).nR /\ (0 : Nat) + (AA N).nR <= (AA N).nR /\ y69 /\ (KV N).length = y60 a /\ (0 : Nat) + y60 a <= y60 a /\ y75) /\ ∀ (a : Nat), y50 a -> bif y16 a then y32 a /\ bif
 y33 a then y37 /\ False else y58 a /\ ∃ (a_2 : Nat), (y8 /\ y9 /\ y8 /\ y59 a_2 a /\ y38 /\ y39 a_2 a /\ y8 /\ y40 /\ y20 /\ y21 /\ y40 /\ y41 /\ y59 a_2 a /\ ∀ (i : Nat), i
 < a_2 -> ((gD (KV N) i).lo = bif decide (i < a) then (gD (KV N) i).lo else y43 a) /\ (gD (KV N) i).hi = bif decide (i < a) then (gD (KV N) i).hi else y44 a) /\ y51 a_2 a else y52 /\ y52 /\ (KV
 N).length = a /\ y67 a /\ y75)) := by kernel_rfl
def Xu : Ann := ann 45 [(73, C73b.spec XP)]
def C34b : Ctr := { α := NetL, xs := λ N => [.d (EZ N)], L := λ _ => [], val := λ N => .tup [KK [], KK [], .int (FC N)], keep := λ _ => [], pre := λ N => [FC N ≠ 0, AD N = 0 -> (AT N).isSome = true] }
def Xx (N : NetL) : Prop := BM Try.prog Xu Try.f34 (AJ Try.f34) (C34b.xs N) (AE (C34b.L N)) (C34b.val N) (C34b.keep N) [] []
theorem Vc (N : NetL) : (Xx N) = (((AC N.g.length λ (i : Nat) => gD N.g i).length = N.g.length /\ (∀ (i : Nat), i < (AC N.g.length λ (i : Nat) => gD N.g i).length -> (gD (AC N.g.length λ (i : Nat) => gD N.g
 i) i).lo = (gD N.g i).lo /\ (gD (AC N.g.length λ (i : Nat) => gD N.g i) i).hi = (gD N.g i).hi) /\ (AC N.r.length λ (i : Nat) => gD N.r i).length = N.r.length /\ (∀ (i : Nat), i < (AC N.r.length λ (i : Nat) => gD
 N.r i).length -> (gD (AC N.r.length λ (i : Nat) => gD N.r i) i).fr = (gD N.r i).fr /\ (gD (AC N.r.length λ (i : Nat) => gD N.r i) i).to = (gD N.r i).to /\ (gD (AC N.r.length λ (i : Nat) => gD N.r i) i).sp.lo = (gD
 N.r i).sp.lo /\ (gD (AC N.r.length λ (i : Nat) => gD N.r i) i).sp.hi = (gD N.r i).sp.hi) /\ FC (NetL.mk (AC N.g.length λ (i : Nat) => gD N.g i) (AC N.r.length λ (i : Nat) => gD N.r i)) ≠ 0 /\ (AD (NetL.mk
 (AC N.g.length λ (i : Nat) => gD N.g i) (AC N.r.length λ (i : Nat) => gD N.r i)) = 0 -> (AT (NetL.mk (AC N.g.length λ (i : Nat) => gD N.g i) (AC N.r.length λ (i : Nat) => gD N.r i))).isSome = true)) /\
 bif FC (NetL.mk (AC N.g.length λ (i : Nat) => gD N.g i) (AC N.r.length λ (i : Nat) => gD N.r i)) != 0 then 0 = 0 /\ 0 = 0 /\ 0 = 0 /\ 0 = 0 /\ FC N = FC (NetL.mk (AC N.g.length λ (i : Nat) => gD N.g i) (AC
 N.r.length λ (i : Nat) => gD N.r i)) else False) := by kernel_rfl
theorem p34 (N : NetL) (h1 : AD N = 0) (h2 : (AT N).isSome = true) (h3 : ¬ 0 < CJ N) (h4 : ∀ i : Nat, i < (AA N).all.length -> (EI (AA N) i).isSome = true) : V34 N := by
 rw [vc34]; (conv => zeta); simp only [CC, eq_self, implies_true, forall_const, DL.d6, DL.d7, DL.d8]
 obtain ⟨l1, l2, l3⟩ := IZ h2
 have hg := DD h1
 have g1 := hg.g1
 have g8 := hg.g8
 have r14 := hg.r14
 have hok := Eu h1 h2
 have hF : ∀ i, i < (AA N).nR -> gD (KT N) i = (EI (AA N) (i : Nat)).getD default := λ i hi => by
  unfold KT
  have : gD ((LO (AA N)).take (AA N).nR) i = gD (LO (AA N)) i := by
   simp only [gD, List.getD_eq_getElem?_getD]; rw [List.getElem?_take_of_lt hi]
  rw [this]; exact DU (λ (i : Nat) => (EI (AA N) i).getD default) (by omega)
 have hG : ∀ j, (AA N).nR + j < (AA N).all.length -> gD (KV N) j = (EI (AA N) (((AA N).nR + j : Nat) : Int)).getD default := λ j hj => by
  unfold KV
  have : gD ((LO (AA N)).drop (AA N).nR) j = gD (LO (AA N)) ((AA N).nR + j) := by
   simp only [gD, List.getD_eq_getElem?_getD, List.getElem?_drop]
  rw [this]; exact DU (λ (i : Nat) => (EI (AA N) i).getD default) hj
 have hFl : (KT N).length = (AA N).nR := by simp [KT, LO]; omega
 have hGl : (KV N).length = (AA N).all.length - (AA N).nR := by simp [KV, LO]
 rw [hFl, hGl]
 generalize (AA N).all.length = n at *
 generalize (AA N).nR = q at *
 refine ⟨⟨h1, h2, h3⟩, ⟨0, rfl, rfl⟩, λ k hk => ⟨λ hlt => ⟨⟨hok, ⟨by omega, hlt⟩, h4 k (by omega)⟩, λ hq => ?_, λ hq => ?_⟩, λ hge => by omega⟩, λ k hk => ⟨λ hlt => ⟨⟨hok, ⟨by omega, hlt⟩, h4 k (by omega)⟩, λ hq => ?_, λ hq => ?_⟩, λ hge => by omega⟩, λ k hk => ⟨λ hlt => ⟨⟨hok, ⟨by omega, hlt⟩, h4 k (by omega)⟩, λ hq => by omega, λ hq => ?_⟩, λ hge => by omega⟩, λ k hk => ⟨λ hlt => ⟨⟨hok, ⟨by omega, hlt⟩, h4 k (by omega)⟩, λ hq => by omega, λ hq => ?_⟩, λ hge => by omega⟩⟩
 ·subst hk
  refine ⟨⟨by decide, by decide, by decide, by decide, by decide⟩, 1, ⟨rfl, rfl, rfl, λ i hi => ?_⟩, by omega, by omega⟩
  have : i = 0 := by omega
  subst this; rw [hF 0 (by omega)]; exact ⟨rfl, rfl⟩
 ·subst hk
  have hq0 : q = 0 := by omega
  refine ⟨⟨by decide, by decide, by decide, by decide, by decide⟩, 1, ⟨rfl, rfl, rfl, λ i hi => ?_⟩, by omega, by omega⟩
  have : i = 0 := by omega
  subst this; rw [hG 0 (by omega), hq0]; exact ⟨rfl, rfl⟩
 ·refine ⟨⟨by decide, by decide, by omega, by omega⟩, k + 1, ⟨rfl, (BB (by omega)).symm, rfl, λ i hi => ?_⟩, by omega, by omega⟩
  by_cases hi2 : i < k
  ·simp [hi2]
  ·have : i = k := by omega
   subst this
   simp only [hi2, decide_false, cond_false]
   rw [hF i (by omega)]; exact ⟨rfl, rfl⟩
 ·have hk2 : k = q := by omega
  subst hk2
  refine ⟨⟨by decide, by decide, by decide, by decide, by decide⟩, k + 1, ⟨rfl, by omega, (BB (by omega)).symm, rfl, by omega, λ i hi => ?_⟩, by omega, by omega⟩
  have : i = 0 := by omega
  subst this; rw [hG 0 (by omega)]; exact ⟨rfl, rfl⟩
 ·refine ⟨⟨by decide, by decide, by omega, by omega⟩, k + 1, ⟨by omega, (BB (by omega)).symm, by omega, λ i hi => ?_⟩, by omega, by omega⟩
  by_cases hi2 : i < k - q
  ·simp [hi2]
  ·have : i = k - q := by omega
   subst this
   simp only [hi2, decide_false, cond_false]
   rw [hG (k - q) (by omega), show q + (k - q) = k by omega]; exact ⟨rfl, rfl⟩
 ·refine ⟨⟨by decide, by decide, by omega, by omega⟩, k + 1, ⟨rfl, (BB (by omega)).symm, rfl, λ i hi => ?_⟩, by omega, by omega⟩
  by_cases hi2 : i < k
  ·simp [hi2]
  ·have : i = k := by omega
   subst this
   simp only [hi2, decide_false, cond_false]
   rw [hG i (by omega), show q + i = i by omega]; exact ⟨rfl, rfl⟩
theorem p34b (N : NetL) (h1 : FC N ≠ 0) (h2 : AD N = 0 -> (AT N).isSome = true) : Xx N := by
 rw [Vc]; simp only [CC, eq_self, implies_true, forall_const, DL.d6, DL.d7, DL.d8]
 exact ⟨⟨h1, h2⟩, by simp [h1]⟩
theorem ok34 : AL Try.prog 34 (C34.spec XP) := JC C34 A34 [] [210, 211] Try.func34 (λ _ => by kernel_rfl) (λ _ => AB Sr (AB Sp AH)) (λ N h => p34 N h.1 h.2.1 h.2.2.1 h.2.2.2) (λ _ => KF rfl rfl) _
end Go.Bal
