/- Package balance: Reached. -/
import Derived.Test.YtonddbmhljelgaaBalN
import Derived.Test.YtonddbmhljelgaaBalT15
set_option linter.unusedVariables false
set_option linter.unusedSimpArgs false
namespace Go.Bal
open Go Go.Sym Go.Proofs
structure NRF where
 N : NetL
 r : Int
 f : Int
def NRF.lacks (a : NRF) : Int := wr (a.f - (BX (AB a.N).all a.r).now)
def NRF.need (a : NRF) : Int := max a.lacks (wr (-a.lacks))
def NRF.sh (a : NRF) : Option (Desk × Int) := HT (AB a.N) a.r (decide (0 < a.lacks)) a.need
def NRF.res (a : NRF) : Desk × Int := a.sh.getD default
def BS (a : NRF) : Int := if AC a.N = 0 then if inM a.r 0 (a.N.r.length - 1) then if 0 < BK a.N then 6 else if inM a.f (-100000000) 100000000 then if a.res.2 = a.need then 0 else 5 else 5 else 2 else AC a.N
def A38 : Ann := ann 71 [(44, s44), (62, Zt), (73, C73.spec QO), (77, C77.spec d77), (56, C56.spec OM)]
def A38e : Ann := ann 71 [(44, s44), (62, Zt), (73, C73b.spec QO)]
def Zp (a : NRF) : List AVal := [.d (EI a.N), .int a.r, .int a.f]
def C38 : Ctr := { α := NRF, xs := Zp, L := λ _ => [], val := λ a => .tup [.d (EY (AL a.res.1)), .int 0], keep := λ _ => [], pre := λ a => [BS a = 0, (AO a.N).isSome = true, a.sh.isSome = true] }
def V38 (a : NRF) : Prop := BC Try.prog A38 Try.f38 (AH Try.f38) (C38.xs a) (AE (C38.L a)) (C38.val a) (C38.keep a) [] [15016, 15017]
theorem vc38 (a : NRF) : (V38 a) = (let q := a
 let y0 := DE (Net.mk q.N.g.length (λ (i : Nat) => gD q.N.g i) q.N.r.length λ (i : Nat) => gD q.N.r i)
 let y1 := (AL q.res.fst).f.length = (0 : Nat)
 let y2 := (AL q.res.fst).t.length = (0 : Nat)
 let y3 : List Span := AD q.N.g.length λ (i : Nat) => gD q.N.g i
 let y4 := y3.length
 let y5 (i : Nat) : Span := gD y3 i
 let y6 : List Reach := AD q.N.r.length λ (i : Nat) => gD q.N.r i
 let y7 := y6.length
 let y8 (i : Nat) : Reach := gD y6 i
 let y9 (i : Nat) : Span := (y8 i).sp
 let y10 : NetL := NetL.mk y3 y6
 let y11 := y1 /\ y1 /\ y2 /\ y2 /\ Int.ofNat (0 : Nat) = Int.ofNat (5 : Nat)
 let y12 := (0 : Int) <= q.r
 let y13 : Desk := AB y10
 let y14 : List Way := y13.all
 let y15 := y14.length
 let y16 := (0 : Nat) + q.r.toNat
 let y17 := IntKind.i64.wrap (q.f - (gD y14 y16).now)
 let y18 := y17 > (0 : Int)
 let y19 := decide y18
 let y20 := Bc y17 (IntKind.i64.wrap ((0 : Int) - y17))
 let y21 := (0 : Nat) = (0 : Nat)
 let y22 (i : Nat) : Way := gD y14 i
 let y23 : List Way := AD y15 λ (i : Nat) => y22 i
 let y24 := y23.length
 let y25 := y24 = y15
 let y26 := y13.out
 let y27 := y13.nR
 let y28 (i : Nat) : Way := gD y23 i
 let y29 (i : Nat) : Span := (y28 i).sp
 let y30 (i : Nat) : Span := (y22 i).sp
 let y31 : Desk := Desk.mk y23 y26 y27
 let y32 : Desk × Int := (SA.mk y31 q.r y19 y20).res
 let y33 : Desk := y32.fst
 let y34 : List Way := y33.all
 let y35 := y34.length
 let y36 (i : Nat) : Way := gD y34 i
 let y37 : List Way := AD y35 λ (i : Nat) => y36 i
 let y38 := y37.length
 let y39 := y38 = y35
 let y40 := y33.out
 let y41 := (↑y40 : Int) = (↑y40 : Int)
 let y42 := y33.nR
 let y43 := (↑y42 : Int) = (↑y42 : Int)
 let y44 : Desk := (SA.mk y31 q.r (decide y18) y20).res.fst
 let y45 : List Way := y44.all
 let y46 := y45.length
 let y47 := (AD y46 λ (i : Nat) => gD y45 i).length
 let y48 (i : Nat) : Way := gD y37 i
 let y49 (i : Nat) := (y48 i).fr
 let y50 (i : Nat) := (y36 i).fr
 let y51 (i : Nat) := (y48 i).to
 let y52 (i : Nat) := (y36 i).to
 let y53 (i : Nat) : Span := (y48 i).sp
 let y54 (i : Nat) := (y53 i).lo
 let y55 (i : Nat) : Span := (y36 i).sp
 let y56 (i : Nat) := (y55 i).lo
 let y57 (i : Nat) := (y53 i).hi
 let y58 (i : Nat) := (y55 i).hi
 let y59 (i : Nat) := (y48 i).now
 let y60 (i : Nat) := (y36 i).now
 let y61 := y35 = y38
 let y62 := y44.out
 let y63 : Desk := (SA.mk y31 q.r (decide y18) y20).res.fst
 let y64 : List Way := y63.all
 let y65 := y44.nR
 let y66 : TruthL := AL (Desk.mk y37 y40 y42)
 let y67 (j : Nat) := (0 : Nat) + j
 (((∀ (i : Nat), i < a.N.g.length -> True) /\ ∀ (i : Nat), i < a.N.r.length -> True) /\ bif bif y0 == (0 : Int) then !inM a.r (0 : Int) (IntKind.i64.wrap ((↑a.N.r.length : Int) - (1 :
 Int))) else false then y1 /\ y1 /\ y2 /\ y2 /\ Int.ofNat (0 : Nat) = Int.ofNat (2 : Nat) else bif y0 != (0 : Int) then y1 /\ y1 /\ y2 /\ y2 /\ (0 : Int) = y0 else (y4 =
 a.N.g.length /\ (∀ (i : Nat), i < y4 -> (y5 i).lo = (gD a.N.g i).lo /\ (y5 i).hi = (gD a.N.g i).hi) /\ y7 = a.N.r.length /\ (∀ (i : Nat), i < y7 -> (y8 i).fr = (gD a.N.r i).fr /\ (y8 i).to =
 (gD a.N.r i).to /\ (y9 i).lo = (gD a.N.r i).sp.lo /\ (y9 i).hi = (gD a.N.r i).sp.hi) /\ AC y10 = (0 : Int) /\ (AO y10).isSome = true /\ ((0 : Int) < BK y10 -> False)) /\ bif !inM a.f
 (-100000000 : Int) (100000000 : Int) then y11 else ((y12 /\ a.r < (↑y15 : Int)) /\ y16.succ.le y15) /\ (a.r = a.r /\ y19 = y19 /\ y20 = y20 /\ y21 /\ y25 /\ (↑y26
 : Int) = (↑y26 : Int) /\ (↑y27 : Int) = (↑y27 : Int) /\ y25 /\ (∀ (i : Nat), i < y24 -> (y28 i).fr = (y22 i).fr /\ (y28 i).to = (y22 i).to /\ (y29 i).lo = (y30 i).lo
 /\ (y29 i).hi = (y30 i).hi /\ (y28 i).now = (y22 i).now) /\ y31.ok /\ (y12 /\ a.r < (↑y24 : Int)) /\ (HT y31 a.r y19 y20).isSome = true) /\ bif y32.snd !=
 y20 then y11 else (y21 /\ y39 /\ y41 /\ y43 /\ y39 /\ (∀ (i : Nat), i < y47 -> y49 i = y50 i /\ y51 i = y52 i /\ y54 i = y56 i /\ y57 i = y58 i /\
 y59 i = y60 i) /\ y21 /\ y61 /\ y41 /\ y43 /\ y61 /\ (∀ (i : Nat), i < y46 -> y50 i = y49 i /\ y52 i = y51 i /\ y56 i = y54 i /\ y58 i = y57 i /\ y60 i = y59 i) /\ ((1 : Nat) <= y62 /\ y47 <= (1000 : Nat)) /\ (y63.nR + y63.out).le (AD y64.length λ (i : Nat) => gD y64 i).length) /\ (AL a.res.fst).f.length = y42 /\ (0 :
 Nat) + y65 <= y65 /\ (∀ (j : Nat), j < (AL a.res.fst).f.length -> gD (AL a.res.fst).f j = gD y66.f (y67 j)) /\ (AL a.res.fst).t.length = y40 /\ (0 : Nat) + y62 <= y62 /\ (∀ (j :
 Nat), j < (AL a.res.fst).t.length -> gD (AL a.res.fst).t j = gD y66.t (y67 j)) /\ Int.ofNat (0 : Nat) = Int.ofNat (0 : Nat))) := by kernel_rfl
def C38b : Ctr := { α := NRF, xs := Zp, L := λ _ => [], val := λ a => .tup [.d (EY zT), .int (BS a)], keep := λ _ => [], pre := λ a => [BS a ≠ 0, AC a.N = 0 -> (AO a.N).isSome = true, BS a = 5 -> inM a.f (-100000000) 100000000 = true -> a.sh.isSome = true] }
def V38b (a : NRF) : Prop := BC Try.prog A38 Try.f38 (AH Try.f38) (C38b.xs a) (AE (C38b.L a)) (C38b.val a) (C38b.keep a) [] []
theorem ACL (a : NRF) : (V38b a) = (let q := a
 let y0 := DE (Net.mk q.N.g.length (λ (i : Nat) => gD q.N.g i) q.N.r.length λ (i : Nat) => gD q.N.r i)
 let y1 := 0 = 0
 let y2 : List Span := AD q.N.g.length λ (i : Nat) => gD q.N.g i
 let y3 := y2.length
 let y4 (i : Nat) : Span := gD y2 i
 let y5 : List Reach := AD q.N.r.length λ (i : Nat) => gD q.N.r i
 let y6 := y5.length
 let y7 (i : Nat) : Reach := gD y5 i
 let y8 (i : Nat) : Span := (y7 i).sp
 let y9 : NetL := NetL.mk y2 y5
 let y10 := y1 /\ y1 /\ y1 /\ y1 /\ BS q = 5
 let y11 := 0 <= q.r
 let y12 : Desk := AB y9
 let y13 : List Way := y12.all
 let y14 := y13.length
 let y15 := 0 + q.r.toNat
 let y16 := IntKind.i64.wrap (q.f - (gD y13 y15).now)
 let y17 := y16 > 0
 let y18 := decide y17
 let y19 := Bc y16 (IntKind.i64.wrap (0 - y16))
 let y20 (i : Nat) : Way := gD y13 i
 let y21 : List Way := AD y14 λ (i : Nat) => y20 i
 let y22 := y21.length
 let y23 := y22 = y14
 let y24 := y12.out
 let y25 := y12.nR
 let y26 (i : Nat) : Way := gD y21 i
 let y27 (i : Nat) : Span := (y26 i).sp
 let y28 (i : Nat) : Span := (y20 i).sp
 let y29 : Desk := Desk.mk y21 y24 y25
 let y30 : Desk × Int := (SA.mk y29 q.r y18 y19).res
 let y31 : Desk := y30.fst
 let y32 : List Way := y31.all
 let y33 := y32.length
 let y34 (i : Nat) : Way := gD y32 i
 let y35 : List Way := AD y33 λ (i : Nat) => y34 i
 let y36 := y35.length
 let y37 := y36 = y33
 let y38 := y31.out
 let y39 := (↑y38 : Int) = (↑y38 : Int)
 let y40 := y31.nR
 let y41 := (↑y40 : Int) = (↑y40 : Int)
 let y42 : Desk := (SA.mk y29 q.r (decide y17) y19).res.fst
 let y43 : List Way := y42.all
 let y44 := y43.length
 let y45 := (AD y44 λ (i : Nat) => gD y43 i).length
 let y46 (i : Nat) : Way := gD y35 i
 let y47 (i : Nat) := (y46 i).fr
 let y48 (i : Nat) := (y34 i).fr
 let y49 (i : Nat) := (y46 i).to
 let y50 (i : Nat) := (y34 i).to
 let y51 (i : Nat) : Span := (y46 i).sp
 let y52 (i : Nat) := (y51 i).lo
 let y53 (i : Nat) : Span := (y34 i).sp
 let y54 (i : Nat) := (y53 i).lo
 let y55 (i : Nat) := (y51 i).hi
 let y56 (i : Nat) := (y53 i).hi
 let y57 (i : Nat) := (y46 i).now
 let y58 (i : Nat) := (y34 i).now
 let y59 := y33 = y36
 let y60 : Desk := (SA.mk y29 q.r (decide y17) y19).res.fst
 let y61 : List Way := y60.all
 (((∀ (i : Nat), i < a.N.g.length -> True) /\ ∀ (i : Nat), i < a.N.r.length -> True) /\ bif bif y0 == 0 then !inM a.r 0 (IntKind.i64.wrap ((↑a.N.r.length : Int) - 1)) else false then
 y1 /\ y1 /\ y1 /\ y1 /\ BS a = 2 else bif y0 != 0 then y1 /\ y1 /\ y1 /\ y1 /\ BS a = y0 else (y3 = a.N.g.length /\ (∀ (i : Nat), i < y3 -> (y4 i).lo = (gD
 a.N.g i).lo /\ (y4 i).hi = (gD a.N.g i).hi) /\ y6 = a.N.r.length /\ (∀ (i : Nat), i < y6 -> (y7 i).fr = (gD a.N.r i).fr /\ (y7 i).to = (gD a.N.r i).to /\ (y8 i).lo = (gD a.N.r i).sp.lo /\
 (y8 i).hi = (gD a.N.r i).sp.hi) /\ AC y9 = 0 /\ (AO y9).isSome = true /\ (0 < BK y9 -> False)) /\ bif !inM a.f (-100000000) 100000000 then y10 else ((y11 /\ a.r <
 (↑y14 : Int)) /\ y15.succ.le y14) /\ (a.r = a.r /\ y18 = y18 /\ y19 = y19 /\ y1 /\ y23 /\ (↑y24 : Int) = (↑y24 : Int) /\ (↑y25 : Int) = (↑y25 : Int) /\ y23 /\ (∀ (i : Nat), i < y22 -> (y26 i).fr = (y20 i).fr /\ (y26 i).to = (y20 i).to /\ (y27 i).lo = (y28 i).lo /\ (y27 i).hi = (y28 i).hi /\ (y26 i).now = (y20 i).now) /\ y29.ok /\ (y11 /\ a.r < (↑y22 : Int)) /\ (HT y29 a.r y18 y19).isSome = true) /\ bif y30.snd != y19 then y10 else (y1 /\
 y37 /\ y39 /\ y41 /\ y37 /\ (∀ (i : Nat), i < y45 -> y47 i = y48 i /\ y49 i = y50 i /\ y52 i = y54 i /\ y55 i = y56 i /\ y57 i = y58 i) /\
 y1 /\ y59 /\ y39 /\ y41 /\ y59 /\ (∀ (i : Nat), i < y44 -> y48 i = y47 i /\ y50 i = y49 i /\ y54 i = y52 i /\ y56 i = y55 i /\ y58 i = y57 i) /\ (1 <= y42.out /\ y45 <= 1000) /\ (y60.nR + y60.out).le (AD y61.length λ (i : Nat) => gD y61 i).length) /\ False)) := by kernel_rfl
def V38e (a : NRF) : Prop := BC Try.prog A38e Try.f38 (AH Try.f38) (C38b.xs a) (AE (C38b.L a)) (C38b.val a) (C38b.keep a) [] []
theorem ABS (a : NRF) : (V38e a) = (((∀ (i : Nat), i < a.N.g.length -> True) /\ ∀ (i : Nat), i < a.N.r.length -> True) /\ bif bif DE (Net.mk a.N.g.length (λ (i : Nat) => gD a.N.g i) a.N.r.length λ (i : Nat) => gD
 a.N.r i) == 0 then !inM a.r 0 (IntKind.i64.wrap ((↑a.N.r.length : Int) - 1)) else false then 0 = 0 /\ 0 = 0 /\ 0 = 0 /\ 0 = 0 /\ BS a = 2 else bif DE (Net.mk a.N.g.length (λ (i : Nat) => gD a.N.g i) a.N.r.length
 λ (i : Nat) => gD a.N.r i) != 0 then 0 = 0 /\ 0 = 0 /\ 0 = 0 /\ 0 = 0 /\ BS a = DE (Net.mk a.N.g.length (λ (i : Nat) => gD a.N.g i) a.N.r.length λ (i : Nat) => gD a.N.r i) else ((AD a.N.g.length λ (i : Nat)
 => gD a.N.g i).length = a.N.g.length /\ (∀ (i : Nat), i < (AD a.N.g.length λ (i : Nat) => gD a.N.g i).length -> (gD (AD a.N.g.length λ (i : Nat) => gD a.N.g i) i).lo = (gD a.N.g i).lo /\ (gD (AD a.N.g.length λ (i :
 Nat) => gD a.N.g i) i).hi = (gD a.N.g i).hi) /\ (AD a.N.r.length λ (i : Nat) => gD a.N.r i).length = a.N.r.length /\ (∀ (i : Nat), i < (AD a.N.r.length λ (i : Nat) => gD a.N.r i).length -> (gD (AD a.N.r.length λ (i
 : Nat) => gD a.N.r i) i).fr = (gD a.N.r i).fr /\ (gD (AD a.N.r.length λ (i : Nat) => gD a.N.r i) i).to = (gD a.N.r i).to /\ (gD (AD a.N.r.length λ (i : Nat) => gD a.N.r i) i).sp.lo = (gD a.N.r i).sp.lo /\ (gD (AD
 a.N.r.length λ (i : Nat) => gD a.N.r i) i).sp.hi = (gD a.N.r i).sp.hi) /\ FF (NetL.mk (AD a.N.g.length λ (i : Nat) => gD a.N.g i) (AD a.N.r.length λ (i : Nat) => gD a.N.r i)) ≠ 0 /\ (AC (NetL.mk (AD
 a.N.g.length λ (i : Nat) => gD a.N.g i) (AD a.N.r.length λ (i : Nat) => gD a.N.r i)) = 0 -> (AO (NetL.mk (AD a.N.g.length λ (i : Nat) => gD a.N.g i) (AD a.N.r.length λ (i : Nat) => gD a.N.r i))).isSome =
 true)) /\ bif FF (NetL.mk (AD a.N.g.length λ (i : Nat) => gD a.N.g i) (AD a.N.r.length λ (i : Nat) => gD a.N.r i)) != 0 then 0 = 0 /\ 0 = 0 /\ 0 = 0 /\ 0 = 0 /\ BS a = FF (NetL.mk (AD a.N.g.length λ (i : Nat)
 => gD a.N.g i) (AD a.N.r.length λ (i : Nat) => gD a.N.r i)) else bif !inM a.f (-100000000) 100000000 then 0 = 0 /\ 0 = 0 /\ 0 = 0 /\ 0 = 0 /\ BS a = 5 else False) := by kernel_rfl
theorem UJ (N : NetL) : DE (Net.mk N.g.length (λ (i : Nat) => gD N.g i) N.r.length (λ (i : Nat) => gD N.r i)) = AC N := rfl
theorem Qr (r : Int) {n : Nat} (h : n <= 1000000) : inM r 0 (wr ((n : Int) - 1)) = inM r 0 ((n : Int) - 1) := by rw [CF (n := (n : Int) - 1) (by omega) (by omega)]
theorem XS {a : NRF} (h : BS a = 0) : AC a.N = 0 /\ inM a.r 0 (a.N.r.length - 1) = true /\ ¬ 0 < BK a.N /\ inM a.f (-100000000) 100000000 = true /\ a.res.2 = a.need := by
 unfold BS at h
 by_cases h1 : AC a.N = 0
 ·rw [if_pos h1] at h
  by_cases h2 : inM a.r 0 (a.N.r.length - 1) = true
  ·rw [if_pos h2] at h
   by_cases h3 : 0 < BK a.N
   ·rw [if_pos h3] at h; cases h
   ·rw [if_neg h3] at h
    by_cases h4 : inM a.f (-100000000) 100000000 = true
    ·rw [if_pos h4] at h
     by_cases h5 : a.res.2 = a.need
     ·exact ⟨h1, h2, h3, h4, h5⟩
     ·rw [if_neg h5] at h; cases h
    ·rw [if_neg h4] at h; cases h
  ·rw [if_neg h2] at h; cases h
 ·rw [if_neg h1] at h; exact absurd h h1
theorem p38 (a : NRF) (h1 : BS a = 0) (h2 : (AO a.N).isSome = true) (h3 : a.sh.isSome = true) : V38 a := by
 obtain ⟨c1, c2, c3, c4, c5⟩ := XS h1
 obtain ⟨l1, l2, l3⟩ := GP h2
 have hg := AS c1
 have g1 := hg.g1
 have g8 := hg.g8
 have r14 := hg.r14
 have hin := BI.1 c2
 have hr : 0 <= a.r /\ a.r < (AB a.N).all.length := by omega
 have hrn : a.r.toNat < (AB a.N).all.length := by omega
 have hw := Qr a.r (n := a.N.r.length) (by omega)
 obtain ⟨x, hx⟩ := Option.isSome_iff_exists.1 h3
 have hres : a.res = x := by unfold NRF.res; rw [hx]; rfl
 have hlen : a.res.1.all.length = (AB a.N).all.length /\ a.res.1.out = (AB a.N).out /\ a.res.1.nR = (AB a.N).nR := by
  rw [hres]; exact PJ (t' := x.2) hx
 rw [vc38]; (conv => zeta); simp only [CC, eq_self, implies_true, forall_const, DL.d6, DL.d7, DL.d8, VP]
 have e1 : IntKind.i64.wrap (a.f - (gD (AB a.N).all a.r.toNat).now) = a.lacks := rfl
 simp only [e1]
 have e2 : max a.lacks (IntKind.i64.wrap (-a.lacks)) = a.need := rfl
 simp only [e2]
 have e3 : (SA.mk (AB a.N) a.r (decide (a.lacks > 0)) a.need).res = a.res := rfl
 have e4 : HT (AB a.N) a.r (decide (a.lacks > 0)) a.need = a.sh := rfl
 simp only [e3, e4, UJ, c1, c4, c5, hlen, l1, l2, l3, JD, IV]
 have hw' : inM a.r 0 (IntKind.i64.wrap ((a.N.r.length : Int) - 1)) = true := hw.trans c2
 simp only [hw', BEq.rfl, cond_true, Bool.not_true, Bool.false_eq_true, false_implies, true_and, bne_self_eq_false, reduceCtorEq, true_implies, h2, h3, l1, l2, l3, hr, hrn, and_true]
 exact ⟨c3, ⟨by omega, by omega⟩, ⟨VW c1 h2, by omega⟩, ⟨⟨by omega, by omega⟩, Nat.le_refl _⟩, Nat.le_refl _, λ _ _ => trivial, Nat.le_refl _, λ _ _ => trivial⟩
theorem Fv {a : NRF} (hc : AC a.N = 0) (hl : a.N.r.length <= 14) : ((bif AC a.N == 0 then !inM a.r 0 (IntKind.i64.wrap ((a.N.r.length : Int) - 1)) else false) = !inM a.r 0 ((a.N.r.length : Int) - 1)) := by
 have hw := Qr a.r (n := a.N.r.length) (by omega)
 have hw : inM a.r 0 (IntKind.i64.wrap ((a.N.r.length : Int) - 1)) = _ := hw
 rw [hw, hc]; rfl
theorem p38b (a : NRF) (h1 : BS a ≠ 0) (h2 : AC a.N = 0 -> (AO a.N).isSome = true) (h3 : AC a.N = 0 -> inM a.r 0 (a.N.r.length - 1) = true -> ¬ 0 < BK a.N -> inM a.f (-100000000) 100000000 = true -> a.sh.isSome = true) (h6 : ¬ 0 < BK a.N) : V38b a := by
 rw [ACL]; (conv => zeta); simp only [CC, eq_self, implies_true, forall_const, DL.d6, DL.d7, DL.d8, VP]
 have e1 : IntKind.i64.wrap (a.f - (gD (AB a.N).all a.r.toNat).now) = a.lacks := rfl
 simp only [e1]
 have e2 : max a.lacks (IntKind.i64.wrap (-a.lacks)) = a.need := rfl
 simp only [e2]
 have e3 : (SA.mk (AB a.N) a.r (decide (a.lacks > 0)) a.need).res = a.res := rfl
 have e4 : HT (AB a.N) a.r (decide (a.lacks > 0)) a.need = a.sh := rfl
 simp only [e3, e4, UJ]
 by_cases hc : AC a.N = 0
 ·have hg := AS hc
  have g1 := hg.g1
  have g8 := hg.g8
  have r14 := hg.r14
  obtain ⟨l1, l2, l3⟩ := GP (h2 hc)
  rw [Fv hc r14]
  refine ⟨λ hb => ?_, λ hb => ⟨λ hn => absurd hc (by simpa using hn), λ _ => ⟨⟨hc, h2 hc, h6⟩, λ hf => ?_, λ hf => ?_⟩⟩⟩
  ·have hb : inM a.r 0 (a.N.r.length - 1) = false := by simpa using hb
   unfold BS; rw [if_pos hc, hb]; rfl
  all_goals have hb : inM a.r 0 (a.N.r.length - 1) = true := by simpa using hb
  ·unfold BS; rw [if_pos hc, if_pos hb, if_neg h6, hf]; rfl
  ·have hin := BI.1 hb
   have hr : 0 <= a.r /\ a.r < (AB a.N).all.length := by omega
   have hs := h3 hc hb h6 hf
   refine ⟨⟨hr, by omega⟩, ⟨VW hc (h2 hc), hr, hs⟩, λ hne => ?_, λ he => ?_⟩
   ·have hne : ¬ a.res.2 = a.need := by simpa using hne
    unfold BS; rw [if_pos hc, if_pos hb, if_neg h6, if_pos hf, if_neg hne]
   ·have he : a.res.2 = a.need := by simpa using he
    exact absurd (by unfold BS; rw [if_pos hc, if_pos hb, if_neg h6, if_pos hf, if_pos he]) h1
 ·have hb : (AC a.N == 0) = false := by simpa using hc
  have hb2 : (AC a.N != 0) = true := by simpa using hc
  rw [hb, hb2]
  refine ⟨λ h => (by cases h), λ _ => ⟨λ _ => (by unfold BS; rw [if_neg hc]), λ h => (by cases h)⟩⟩
theorem p38e (a : NRF) (h1 : BS a ≠ 0) (h2 : AC a.N = 0 -> (AO a.N).isSome = true) (h6 : 0 < BK a.N) : V38e a := by
 rw [ABS]; simp only [CC, eq_self, implies_true, forall_const, DL.d6, DL.d7, DL.d8, UJ]
 by_cases hc : AC a.N = 0
 ·have hg := AS hc
  have r14 := hg.r14
  have hf : FF a.N = 6 := by unfold FF; rw [if_pos hc, if_pos h6]
  rw [Fv hc r14, hf]
  refine ⟨λ hb => ?_, λ hb => ⟨λ hn => absurd hc (by simpa using hn), λ _ => ⟨⟨by decide, h2⟩, λ _ => ?_, λ h => absurd h (by decide)⟩⟩⟩
  ·have hb : inM a.r 0 (a.N.r.length - 1) = false := by simpa using hb
   unfold BS; rw [if_pos hc, hb]; rfl
  ·have hb : inM a.r 0 (a.N.r.length - 1) = true := by simpa using hb
   unfold BS; rw [if_pos hc, if_pos hb, if_pos h6]
 ·have hb : (AC a.N == 0) = false := by simpa using hc
  have hb2 : (AC a.N != 0) = true := by simpa using hc
  rw [hb, hb2]
  refine ⟨λ h => (by cases h), λ _ => ⟨λ _ => (by unfold BS; rw [if_neg hc]), λ h => (by cases h)⟩⟩
end Go.Bal

namespace Go.Bal
open Go
variable {N : NetL} {T : TruthL}
theorem VI (h : AC N = 0) (hc : BK N = 0) {r : Nat} (hr : r < N.r.length) {f : Int} (hf : -100000000 <= f /\ f <= 100000000) :
  (NRF.mk N r f).sh.isSome = true /\ ((NRF.mk N r f).res.2 = (NRF.mk N r f).need ↔ (gD (OE N) r).lo <= f /\ f <= (gD (OE N) r).hi) /\
  ((NRF.mk N r f).res.2 = (NRF.mk N r f).need -> Can N (AL (NRF.mk N r f).res.1) /\ gD (AL (NRF.mk N r f).res.1).f r = f) := by
 have hg := AS h
 obtain ⟨h2, π, hs⟩ := BD h
 obtain ⟨l1, l2, l3⟩ := GP h2
 have hS := Nu h (by omega)
 have hri : r < (AB N).all.length := by omega
 have hsm := MB h hri
 have hsp := He h hc hr
 obtain ⟨Tl, cl, el⟩ := hsp.lo
 obtain ⟨Th, ch, eh⟩ := hsp.hi
 have ew : BX (AB N).all (r : Int) = gD (AB N).all r := by simp [BX]
 have el' : (NRF.mk N r f).lacks = f - (gD (AB N).all r).now := by
  unfold NRF.lacks; simp only [ew]; exact CF (by omega) (by omega)
 have en : (NRF.mk N r f).need = max (f - (gD (AB N).all r).now) (-(f - (gD (AB N).all r).now)) := by
  unfold NRF.need; rw [el', CF (n := -(f - (gD (AB N).all r).now)) (by omega) (by omega)]
 have hfu : (3000000000 : Int) < fuel := by unfold fuel; decide
 obtain ⟨d', t, s1, s2, s3, s4, s5, s6, s7⟩ := LZ (at' := (r : Int)) (up := decide (0 < (NRF.mk N r f).lacks)) (most := (NRF.mk N r f).need) (by rw [en]; omega) fuel (AB N) 0 hS (by omega) (by omega) (by rw [en]; omega)
 have hsh : (NRF.mk N r f).sh = some (d', t) := s1
 have hres : (NRF.mk N r f).res = (d', t) := by unfold NRF.res; rw [hsh]; rfl
 have hL' := hs.like.trans s3
 have e0 : ((r : Nat) : Int).toNat = r := by omega
 rw [e0] at s6
 have hcan := Jq h hL' s2
 have hflow : gD (AL d').f r = (gD d'.all r).now := RE (by rw [hL'.nR]; exact hr)
 have hnow : t = (NRF.mk N r f).need -> (gD d'.all r).now = f := λ ht => by
  rw [s6, ht, en]
  by_cases hl : 0 < (NRF.mk N r f).lacks
  ·rw [if_pos (by simpa using hl)]; rw [el'] at hl; omega
  ·rw [if_neg (by simpa using hl)]; rw [el'] at hl; omega
 refine ⟨by rw [hsh]; rfl, ?_, ?_⟩
 ·rw [hres]
  constructor
  ·intro ht
   have := hsp.all _ hcan
   simp only [hflow, hnow ht] at this
   exact this
  ·intro hin
   refine Classical.byContradiction λ hne => ?_
   have hst := s7.resolve_left (by simp only at hne; omega)
   have hlt : t < (NRF.mk N r f).need := by
    simp only at hne
    rcases s5 with h5 | h5
    ·omega
    ·rw [en] at hne ⊢; omega
   have mst := λ (T : TruthL) (hT : Can N T) => UO s2 (SB hT).1 (IK hL' (SB hT).2) (at' := (r : Int)) (by rw [s3.len]; omega) hst
   have ml := mst Tl cl
   have mh := mst Th ch
   rw [e0, EL hr] at ml mh
   simp only at ml mh el eh
   by_cases hl : 0 < (NRF.mk N r f).lacks
   ·rw [if_pos (by simpa using hl)] at mh s6
    rw [el'] at hl
    rw [en] at hlt
    omega
   ·rw [if_neg (by simpa using hl)] at ml s6
    rw [el'] at hl
    rw [en] at hlt
    omega
 ·rw [hres]
  intro ht
  exact ⟨hcan, by rw [hflow]; exact hnow ht⟩
end Go.Bal
