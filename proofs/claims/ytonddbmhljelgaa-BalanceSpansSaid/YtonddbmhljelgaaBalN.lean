/- Package balance: Spans, Reached. -/
import Derived.Test.YtonddbmhljelgaaBalL
set_option linter.unusedVariables false
set_option linter.unusedSimpArgs false
namespace Go.Bal
open Go Go.Sym Go.Proofs
def NL (d : Desk) : List Span := (List.range d.all.length).map λ (i : Nat) => (CX d i).getD default
def Yl (n : Nat) (l : List Span) : HCell := .live (.row 2 n λ i => EU (gD l i))
def spH (N : NetL) : List (Nat × HCell) := [(301, .live (VQ (AB N) 302)), (302, .live (VT (AB N)))]
def spS (N : NetL) (a b : AVal) (k : Nat) : List (Nat × AVal) := [(2, a), (3, b), (5, .bptr 301 0), (21, .int (AB N).all.length), (22, .int k)]
def OE (N : NetL) : List Span := (NL (AB N)).take (AB N).nR
def TN (N : NetL) : List Span := (NL (AB N)).drop (AB N).nR
def A34 (N : NetL) : Ann := { ann 45 [(73, C73.spec QO), (74, C74.spec dDI)] with mt := λ id => id == 9 || id == 10, loops := λ id => if id = 5 then some [{ α := Nat, dflt := 0, T := λ k => ⟨spS N (.d LT) (.d LT) k, spH N⟩, inv := λ k => k = 0, meas := λ k => (AB N).all.length - k, first := [(301, 2016), (302, 2017)] }, { α := Nat, dflt := 0, T := λ k => ⟨spS N (.own 210 2 0 k) (.d LT) k, spH N ++ [(210, Yl k (OE N))]⟩, inv := λ k => 0 < k /\ k <= (AB N).nR, meas := λ k => (AB N).all.length - k, again := [(210, 10048)] }, { α := Nat, dflt := 0, T := λ k => ⟨spS N (.own 210 2 0 (AB N).nR) (.own 211 2 0 (k - (AB N).nR)) k, spH N ++ [(210, Yl (AB N).nR (OE N)), (211, Yl (k - (AB N).nR) (TN N))]⟩, inv := λ k => (AB N).nR < k /\ k <= (AB N).all.length, meas := λ k => (AB N).all.length - k, again := [(211, 11048)] }, { α := Nat, dflt := 0, T := λ k => ⟨spS N (.d LT) (.own 211 2 0 k) k, spH N ++ [(211, Yl k (TN N))]⟩, inv := λ k => (AB N).nR = 0 /\ 0 < k /\ k <= (AB N).all.length, meas := λ k => (AB N).all.length - k, again := [(211, 11048)] }] else none }
def SG (l : List Span) : AVal := .d (GG l)
def C34 : Ctr := { α := NetL, xs := λ N => [.d (EI N)], L := λ _ => [], val := λ N => .tup [SG (OE N), SG (TN N), .int 0], keep := λ _ => [], pre := λ N => [AC N = 0, (AO N).isSome = true, ¬ 0 < BK N, ∀ i : Nat, i < (AB N).all.length -> (CX (AB N) i).isSome = true] }
def V34 (N : NetL) : Prop := BC Try.prog (A34 N) Try.f34 (AH Try.f34) (C34.xs N) (AE (C34.L N)) (C34.val N) (C34.keep N) [] [210, 211]
theorem vc34 (N : NetL) : (V34 N) = (let q := N
 let y0 : List Span := AD q.g.length λ (i : Nat) => gD q.g i
 let y1 := y0.length
 let y2 (i : Nat) : Span := gD y0 i
 let y3 : List Reach := AD q.r.length λ (i : Nat) => gD q.r i
 let y4 := y3.length
 let y5 (i : Nat) : Reach := gD y3 i
 let y6 (i : Nat) : Span := (y5 i).sp
 let y7 : NetL := NetL.mk y0 y3
 let y8 := (0 : Nat) = (0 : Nat)
 let y9 := ∀ (i : Nat), i < (0 : Nat) -> false = false
 let y10 : Desk := AB y7
 let y11 : List Way := y10.all
 let y12 := y11.length
 let y13 := (AB q).all.length = y12
 let y14 (i : Nat) : Way := gD y11 i
 let y15 (i : Nat) : Span := (y14 i).sp
 let y16 (a : Nat) := decide ((↑a : Int) < (↑(AB q).all.length : Int))
 let y17 : List Way := AD (AB q).all.length λ (i : Nat) => gD (AB q).all i
 let y18 := y17.length
 let y19 := y18 = (AB q).all.length
 let y20 := (↑(AB q).out : Int) = (↑(AB q).out : Int)
 let y21 := (↑(AB q).nR : Int) = (↑(AB q).nR : Int)
 let y22 (i : Nat) : Way := gD y17 i
 let y23 (i : Nat) := (y22 i).fr
 let y24 (i : Nat) := (y22 i).to
 let y25 (i : Nat) : Span := (y22 i).sp
 let y26 (i : Nat) := (y25 i).lo
 let y27 (i : Nat) := (y25 i).hi
 let y28 (i : Nat) := (y22 i).now
 let y29 := (AB q).all.length = y18
 let y30 : Desk := Desk.mk y17 (AB q).out (AB q).nR
 let y31 (a : Nat) : Option Span := CX y30 (↑a : Int)
 let y32 (a : Nat) := (↑a : Int) = (↑a : Int) /\ y8 /\ y19 /\ y20 /\ y21 /\ y19 /\ (∀ (i : Nat), i < y18 -> y23 i = (gD (AB q).all i).fr /\ y24 i = (gD (AB q).all i).to /\ y26 i = (gD (AB q).all i).sp.lo /\ y27 i = (gD (AB q).all i).sp.hi /\ y28 i = (gD (AB q).all i).now) /\ y8 /\ y29 /\ y20 /\ y21 /\ y29 /\ (∀ (i : Nat), i < (AB q).all.length -> (gD (AB q).all i).fr = y23 i /\ (gD (AB q).all i).to = y24 i /\ (gD (AB q).all i).sp.lo = y26 i /\ (gD (AB q).all i).sp.hi = y27 i /\ (gD (AB q).all i).now = y28 i) /\ y30.ok /\ ((0 : Int) <= (↑a : Int) /\ (↑a : Int) < (↑y18 : Int)) /\ (y31 a).isSome = true
 let y33 (a : Nat) := decide ((↑a : Int) < (↑(AB q).nR : Int))
 let y34 := (0 : Nat) < (1 : Nat)
 let y35 := (2 : Nat) = (2 : Nat)
 let y36 := (1 : Nat) <= (1 : Nat) /\ (y34 -> y35)
 let y37 := (True /\ ((0 : Nat) < (0 : Nat) -> (0 : Nat) = (2 : Nat))) /\ y36 /\ (true = true -> y34) /\ (1 : Nat) <= (9223372036854775807 : Nat) /\ (16 : Nat) <= (140737488355328 : Nat)
 let y38 := (↑(AB q).all.length : Int) = (↑(AB q).all.length : Int)
 let y39 (a : Nat) (a1 : Nat) := (↑a : Int) = IntKind.i64.wrap ((↑a1 : Int) + (1 : Int))
 let y40 := (AB q).all.length = (AB q).all.length
 let y41 := ∀ (i : Nat), i < (AB q).all.length -> (gD (AB q).all i).fr = (gD (AB q).all i).fr /\ (gD (AB q).all i).to = (gD (AB q).all i).to /\ (gD (AB q).all i).sp.lo = (gD (AB q).all i).sp.lo /\ (gD (AB q).all i).sp.hi = (gD (AB q).all i).sp.hi /\ (gD (AB q).all i).now = (gD (AB q).all i).now
 let y42 (a : Nat) : Span := (y31 a).getD default
 let y43 (a : Nat) := (y42 a).lo
 let y44 (a : Nat) := (y42 a).hi
 let y45 (a : Nat) := (0 : Nat) < a /\ a <= (AB q).nR
 let y46 (a : Nat) := (AB q).all.length - a
 let y47 (a : Nat) (a1 : Nat) := y46 a < y46 a1
 let y48 (a : Nat) (a1 : Nat) := y45 a /\ y47 a a1
 let y49 (i : Nat) (a : Nat) := (gD (TN q) i).lo = y43 a /\ (gD (TN q) i).hi = y44 a
 let y50 (a : Nat) := (AB q).nR = (0 : Nat) /\ (0 : Nat) < a /\ a <= (AB q).all.length
 let y51 (a : Nat) (a1 : Nat) := y50 a /\ y47 a a1
 let y52 := (OE q).length = (0 : Nat)
 let y53 := (TN q).length = (0 : Nat)
 let y54 := Int.ofNat (0 : Nat) = Int.ofNat (0 : Nat)
 let y55 := y53 /\ y53 /\ y54
 let y56 := false = true -> y34
 let y57 (a : Nat) := a + (1 : Nat)
 let y58 (a : Nat) := (a = a /\ ((0 : Nat) < a -> y35)) /\ y36 /\ y56 /\ y57 a <= (9223372036854775807 : Nat) /\ y57 a * (16 : Nat) <= (140737488355328 : Nat)
 let y59 (a : Nat) (a1 : Nat) := a = y57 a1
 let y60 (a : Nat) := a - (AB q).nR
 let y61 (a : Nat) := y60 a = (1 : Nat)
 let y62 := ∀ (i : Nat), i < (AB q).nR -> (gD (OE q) i).lo = (gD (OE q) i).lo /\ (gD (OE q) i).hi = (gD (OE q) i).hi
 let y63 (i : Nat) (a : Nat) := i < y60 a
 let y64 (a : Nat) := (AB q).nR < a /\ a <= (AB q).all.length
 let y65 (a : Nat) (a1 : Nat) := y64 a /\ y47 a a1
 let y66 (a : Nat) := (0 : Nat) + a
 let y67 (a : Nat) := y66 a <= a
 let y68 (j : Nat) : Span := gD (OE q) (y66 j)
 let y69 := ∀ (j : Nat), j < (OE q).length -> (gD (OE q) j).lo = (y68 j).lo /\ (gD (OE q) j).hi = (y68 j).hi
 let y70 := (AB q).nR + (1 : Nat)
 let y71 (a : Nat) := y60 a + (1 : Nat)
 let y72 (a : Nat) (a1 : Nat) := y60 a = y71 a1
 let y73 (i : Nat) (a : Nat) := decide (y63 i a)
 let y74 (j : Nat) : Span := gD (TN q) (y66 j)
 let y75 := (∀ (j : Nat), j < (TN q).length -> (gD (TN q) j).lo = (y74 j).lo /\ (gD (TN q) j).hi = (y74 j).hi) /\ y54
 ((y1 = N.g.length /\ (∀ (i : Nat), i < y1 -> (y2 i).lo = (gD N.g i).lo /\ (y2 i).hi = (gD N.g i).hi) /\ y4 = N.r.length /\ (∀ (i : Nat), i < y4 -> (y5 i).fr = (gD N.r i).fr /\ (y5 i).to = (gD N.r i).to /\ (y6 i).lo = (gD N.r i).sp.lo /\ (y6 i).hi = (gD N.r i).sp.hi) /\ AC y7 = (0 : Int) /\ (AO y7).isSome = true /\ ((0 : Int) < BK
 y7 -> False)) /\ (∃ (a : Nat), (y8 /\ y9 /\ y8 /\ y9 /\ (↑(AB N).all.length : Int) = (↑y12 : Int) /\ (↑a : Int) = (0 : Int) /\ y8 /\ y13 /\ (↑(AB N).out : Int) = (↑y10.out : Int) /\
 (↑(AB N).nR : Int) = (↑y10.nR : Int) /\ y13 /\ ∀ (i : Nat), i < (AB N).all.length -> (gD (AB N).all i).fr = (y14 i).fr /\ (gD (AB N).all i).to = (y14 i).to /\ (gD (AB N).all i).sp.lo = (y15 i).lo /\ (gD (AB N).all i).sp.hi = (y15 i).hi /\ (gD (AB N).all i).now = (y14 i).now) /\ a = (0 : Nat)) /\ (∀ (a : Nat), a = (0 : Nat) -> bif y16 a then y32 a /\ bif y33 a then y37 /\ ∃ (a_2 :
 Nat), (y8 /\ a_2 = (1 : Nat) /\ y8 /\ y9 /\ y38 /\ y39 a_2 a /\ y8 /\ y40 /\ y20 /\ y21 /\ y40 /\ y41 /\ a_2 = (1 : Nat) /\ ∀ (i : Nat), i < a_2 -> (gD (OE N) i).lo = y43 a /\ (gD (OE
 N) i).hi = y44 a) /\ y48 a_2 a else y37 /\ ∃ (a_2 : Nat), (y8 /\ y9 /\ y8 /\ a_2 = (1 : Nat) /\ y38 /\ y39 a_2 a /\ y8 /\ y40 /\ y20 /\ y21 /\ y40 /\ y41 /\ a_2 = (1 : Nat) /\ ∀
 (i : Nat), i < a_2 -> y49 i a) /\ y51 a_2 a else y52 /\ y52 /\ y55) /\ (∀ (a : Nat), y45 a -> bif y16 a then y32 a /\ bif y33 a then y58 a /\ ∃ (a_2 : Nat), (y8 /\ y59 a_2 a /\
 y8 /\ y9 /\ y38 /\ y39 a_2 a /\ y8 /\ y40 /\ y20 /\ y21 /\ y40 /\ y41 /\ y59 a_2 a /\ ∀ (i : Nat), i < a_2 -> ((gD (OE N) i).lo = bif decide (i < a) then (gD (OE N) i).lo else y43 a) /\ (gD (OE N) i).hi = bif decide (i < a) then (gD (OE N) i).hi else y44 a) /\ y48 a_2 a else y37 /\ ∃ (a_2 : Nat), (y8 /\ (AB N).nR = a /\ y8 /\ y61 a_2 /\ y38 /\ y39 a_2 a /\ y8 /\ y40 /\ y20 /\ y21 /\ y40 /\ y41 /\ (AB N).nR = a /\ y62 /\ y61 a_2 /\ ∀ (i : Nat), y63 i a_2 -> y49 i a) /\ y65 a_2 a else (OE N).length = a /\ y67 a /\ y69 /\ y55) /\ (∀ (a :
 Nat), y64 a -> bif y16 a then y32 a /\ bif y33 a then (((AB N).nR = (AB N).nR /\ ((0 : Nat) < (AB N).nR -> y35)) /\ y36 /\ y56 /\ y70 <= (9223372036854775807 : Nat) /\ y70 * (16 : Nat)
 <= (140737488355328 : Nat)) /\ False else ((y60 a = y60 a /\ ((0 : Nat) < y60 a -> y35)) /\ y36 /\ y56 /\ y71 a <= (9223372036854775807 : Nat) /\ y71 a * (16 : Nat) <= (140737488355328 : Nat)) /\ ∃
 (a_2 : Nat), (y8 /\ (AB N).nR = (AB N).nR /\ y8 /\ y72 a_2 a /\ y38 /\ y39 a_2 a /\ y8 /\ y40 /\ y20 /\ y21 /\ y40 /\ y41 /\ (AB N).nR = (AB N).nR /\ y62 /\ y72 a_2 a /\
 ∀ (i : Nat), y63 i a_2 -> ((gD (TN N) i).lo = bif y73 i a then (gD (TN N) i).lo else y43 a) /\ (gD (TN N) i).hi = bif y73 i a then (gD (TN N) i).hi else y44 a) /\ y65 a_2 a else (OE
 N).length = (AB N).nR /\ (0 : Nat) + (AB N).nR <= (AB N).nR /\ y69 /\ (TN N).length = y60 a /\ (0 : Nat) + y60 a <= y60 a /\ y75) /\ ∀ (a : Nat), y50 a -> bif y16 a then y32 a /\ bif
 y33 a then y37 /\ False else y58 a /\ ∃ (a_2 : Nat), (y8 /\ y9 /\ y8 /\ y59 a_2 a /\ y38 /\ y39 a_2 a /\ y8 /\ y40 /\ y20 /\ y21 /\ y40 /\ y41 /\ y59 a_2 a /\ ∀ (i : Nat), i
 < a_2 -> ((gD (TN N) i).lo = bif decide (i < a) then (gD (TN N) i).lo else y43 a) /\ (gD (TN N) i).hi = bif decide (i < a) then (gD (TN N) i).hi else y44 a) /\ y51 a_2 a else y52 /\ y52 /\ (TN
 N).length = a /\ y67 a /\ y75)) := by kernel_rfl
def A34b : Ann := ann 45 [(73, C73b.spec QO)]
def C34b : Ctr := { α := NetL, xs := λ N => [.d (EI N)], L := λ _ => [], val := λ N => .tup [SG [], SG [], .int (FF N)], keep := λ _ => [], pre := λ N => [FF N ≠ 0, AC N = 0 -> (AO N).isSome = true] }
def V34b (N : NetL) : Prop := BC Try.prog A34b Try.f34 (AH Try.f34) (C34b.xs N) (AE (C34b.L N)) (C34b.val N) (C34b.keep N) [] []
theorem ACF (N : NetL) : (V34b N) = (((AD N.g.length λ (i : Nat) => gD N.g i).length = N.g.length /\ (∀ (i : Nat), i < (AD N.g.length λ (i : Nat) => gD N.g i).length -> (gD (AD N.g.length λ (i : Nat) => gD N.g
 i) i).lo = (gD N.g i).lo /\ (gD (AD N.g.length λ (i : Nat) => gD N.g i) i).hi = (gD N.g i).hi) /\ (AD N.r.length λ (i : Nat) => gD N.r i).length = N.r.length /\ (∀ (i : Nat), i < (AD N.r.length λ (i : Nat) => gD
 N.r i).length -> (gD (AD N.r.length λ (i : Nat) => gD N.r i) i).fr = (gD N.r i).fr /\ (gD (AD N.r.length λ (i : Nat) => gD N.r i) i).to = (gD N.r i).to /\ (gD (AD N.r.length λ (i : Nat) => gD N.r i) i).sp.lo = (gD
 N.r i).sp.lo /\ (gD (AD N.r.length λ (i : Nat) => gD N.r i) i).sp.hi = (gD N.r i).sp.hi) /\ FF (NetL.mk (AD N.g.length λ (i : Nat) => gD N.g i) (AD N.r.length λ (i : Nat) => gD N.r i)) ≠ 0 /\ (AC (NetL.mk
 (AD N.g.length λ (i : Nat) => gD N.g i) (AD N.r.length λ (i : Nat) => gD N.r i)) = 0 -> (AO (NetL.mk (AD N.g.length λ (i : Nat) => gD N.g i) (AD N.r.length λ (i : Nat) => gD N.r i))).isSome = true)) /\
 bif FF (NetL.mk (AD N.g.length λ (i : Nat) => gD N.g i) (AD N.r.length λ (i : Nat) => gD N.r i)) != 0 then 0 = 0 /\ 0 = 0 /\ 0 = 0 /\ 0 = 0 /\ FF N = FF (NetL.mk (AD N.g.length λ (i : Nat) => gD N.g i) (AD
 N.r.length λ (i : Nat) => gD N.r i)) else False) := by kernel_rfl
theorem p34 (N : NetL) (h1 : AC N = 0) (h2 : (AO N).isSome = true) (h3 : ¬ 0 < BK N) (h4 : ∀ i : Nat, i < (AB N).all.length -> (CX (AB N) i).isSome = true) : V34 N := by
 rw [vc34]; (conv => zeta); simp only [CC, eq_self, implies_true, forall_const, DL.d6, DL.d7, DL.d8]
 obtain ⟨l1, l2, l3⟩ := GP h2
 have hg := AS h1
 have g1 := hg.g1
 have g8 := hg.g8
 have r14 := hg.r14
 have hok := VW h1 h2
 have hF : ∀ i, i < (AB N).nR -> gD (OE N) i = (CX (AB N) (i : Nat)).getD default := λ i hi => by
  unfold OE
  have : gD ((NL (AB N)).take (AB N).nR) i = gD (NL (AB N)) i := by
   simp only [gD, List.getD_eq_getElem?_getD]; rw [List.getElem?_take_of_lt hi]
  rw [this]; exact BZ (λ (i : Nat) => (CX (AB N) i).getD default) (by omega)
 have hG : ∀ j, (AB N).nR + j < (AB N).all.length -> gD (TN N) j = (CX (AB N) (((AB N).nR + j : Nat) : Int)).getD default := λ j hj => by
  unfold TN
  have : gD ((NL (AB N)).drop (AB N).nR) j = gD (NL (AB N)) ((AB N).nR + j) := by
   simp only [gD, List.getD_eq_getElem?_getD, List.getElem?_drop]
  rw [this]; exact BZ (λ (i : Nat) => (CX (AB N) i).getD default) hj
 have hFl : (OE N).length = (AB N).nR := by simp [OE, NL]; omega
 have hGl : (TN N).length = (AB N).all.length - (AB N).nR := by simp [TN, NL]
 rw [hFl, hGl]
 generalize (AB N).all.length = n at *
 generalize (AB N).nR = q at *
 refine ⟨⟨h1, h2, h3⟩, ⟨0, rfl, rfl⟩, λ k hk => ⟨λ hlt => ⟨⟨hok, ⟨by omega, hlt⟩, h4 k (by omega)⟩, λ hq => ?_, λ hq => ?_⟩, λ hge => by omega⟩, λ k hk => ⟨λ hlt => ⟨⟨hok, ⟨by omega, hlt⟩, h4 k (by omega)⟩, λ hq => ?_, λ hq => ?_⟩, λ hge => by omega⟩, λ k hk => ⟨λ hlt => ⟨⟨hok, ⟨by omega, hlt⟩, h4 k (by omega)⟩, λ hq => by omega, λ hq => ?_⟩, λ hge => by omega⟩, λ k hk => ⟨λ hlt => ⟨⟨hok, ⟨by omega, hlt⟩, h4 k (by omega)⟩, λ hq => by omega, λ hq => ?_⟩, λ hge => by omega⟩⟩
 ·subst hk
  refine ⟨⟨by decide, by decide, by decide, by decide, by decide⟩, 1, ⟨rfl, rfl, rfl, λ i hi => ?_⟩, by omega, by omega⟩
  have : i = 0 := by omega
  subst this; rw [hF 0 (by omega)]; exact ⟨rfl, rfl⟩
 ·subst hk
  have hq0 : q = 0 := by omega
  refine ⟨⟨by decide, by decide, by decide, by decide, by decide⟩, 1, ⟨rfl, rfl, rfl, λ i hi => ?_⟩, by omega, by omega⟩
  have : i = 0 := by omega
  subst this; rw [hG 0 (by omega), hq0]; exact ⟨rfl, rfl⟩
 ·refine ⟨⟨by decide, by decide, by omega, by omega⟩, k + 1, ⟨rfl, (AN (by omega)).symm, rfl, λ i hi => ?_⟩, by omega, by omega⟩
  by_cases hi2 : i < k
  ·simp [hi2]
  ·have : i = k := by omega
   subst this
   simp only [hi2, decide_false, cond_false]
   rw [hF i (by omega)]; exact ⟨rfl, rfl⟩
 ·have hk2 : k = q := by omega
  subst hk2
  refine ⟨⟨by decide, by decide, by decide, by decide, by decide⟩, k + 1, ⟨rfl, by omega, (AN (by omega)).symm, rfl, by omega, λ i hi => ?_⟩, by omega, by omega⟩
  have : i = 0 := by omega
  subst this; rw [hG 0 (by omega)]; exact ⟨rfl, rfl⟩
 ·refine ⟨⟨by decide, by decide, by omega, by omega⟩, k + 1, ⟨by omega, (AN (by omega)).symm, by omega, λ i hi => ?_⟩, by omega, by omega⟩
  by_cases hi2 : i < k - q
  ·simp [hi2]
  ·have : i = k - q := by omega
   subst this
   simp only [hi2, decide_false, cond_false]
   rw [hG (k - q) (by omega), show q + (k - q) = k by omega]; exact ⟨rfl, rfl⟩
 ·refine ⟨⟨by decide, by decide, by omega, by omega⟩, k + 1, ⟨rfl, (AN (by omega)).symm, rfl, λ i hi => ?_⟩, by omega, by omega⟩
  by_cases hi2 : i < k
  ·simp [hi2]
  ·have : i = k := by omega
   subst this
   simp only [hi2, decide_false, cond_false]
   rw [hG i (by omega), show q + i = i by omega]; exact ⟨rfl, rfl⟩
theorem p34b (N : NetL) (h1 : FF N ≠ 0) (h2 : AC N = 0 -> (AO N).isSome = true) : V34b N := by
 rw [ACF]; simp only [CC, eq_self, implies_true, forall_const, DL.d6, DL.d7, DL.d8]
 exact ⟨⟨h1, h2⟩, by simp [h1]⟩
theorem ok34 : AI Try.prog 34 (C34.spec QO) := HQ C34 A34 [] [210, 211] Try.func34 (λ _ => by kernel_rfl) (λ _ => AA Sp (AA Zu AF)) (λ N h => p34 N h.1 h.2.1 h.2.2.1 h.2.2.2) (λ _ => IL rfl rfl) _
end Go.Bal
