/- Package balance: fitting, Agrees, Correct, Levels. -/
import Derived.Test.YtonddbmhljelgaaBalK
set_option linter.unusedVariables false
set_option linter.unusedSimpArgs false
namespace Go.Bal
open Go Go.Sym Go.Proofs
def A19 : Ann := ann 20 [(55, Wv)]
def C19 : Ctr := { α := NetL, xs := λ N => [.d (EZ N)], L := λ _ => [], val := λ N => .tup [.bool (decide (CJ N = 0)), .int 0], keep := λ _ => [], pre := λ N => [AD N = 0, (AT N).isSome = true] }
def V19 (N : NetL) : Prop := BM Try.prog A19 Try.f19 (AJ Try.f19) (C19.xs N) (AE (C19.L N)) (C19.val N) (C19.keep N) [] []
theorem vc19 (N : NetL) : (V19 N) = (((AC N.g.length λ (i : Nat) => gD N.g i).length = N.g.length /\ (∀ (i : Nat), i < (AC N.g.length λ (i : Nat) => gD N.g i).length -> (gD (AC N.g.length λ (i : Nat) => gD N.g i)
 i).lo = (gD N.g i).lo /\ (gD (AC N.g.length λ (i : Nat) => gD N.g i) i).hi = (gD N.g i).hi) /\ (AC N.r.length λ (i : Nat) => gD N.r i).length = N.r.length /\ (∀ (i : Nat), i < (AC N.r.length λ (i : Nat) => gD N.r
 i).length -> (gD (AC N.r.length λ (i : Nat) => gD N.r i) i).fr = (gD N.r i).fr /\ (gD (AC N.r.length λ (i : Nat) => gD N.r i) i).to = (gD N.r i).to /\ (gD (AC N.r.length λ (i : Nat) => gD N.r i) i).sp.lo = (gD N.r
 i).sp.lo /\ (gD (AC N.r.length λ (i : Nat) => gD N.r i) i).sp.hi = (gD N.r i).sp.hi) /\ AD (NetL.mk (AC N.g.length λ (i : Nat) => gD N.g i) (AC N.r.length λ (i : Nat) => gD N.r i)) = (0 : Int) /\ (AT
 (NetL.mk (AC N.g.length λ (i : Nat) => gD N.g i) (AC N.r.length λ (i : Nat) => gD N.r i))).isSome = true) /\ (decide (CJ N = (0 : Int)) = bif (0 : Int) == (0 : Int) then CJ (NetL.mk (AC N.g.length λ (i : Nat)
 => gD N.g i) (AC N.r.length λ (i : Nat) => gD N.r i)) == (0 : Int) else false) /\ Int.ofNat (0 : Nat) = Int.ofNat (0 : Nat)) := by kernel_rfl
theorem p19 (N : NetL) (h1 : AD N = 0) (h2 : (AT N).isSome = true) : V19 N := by
 rw [vc19]; simp only [CC, eq_self, implies_true, forall_const, DL.d6, DL.d7, DL.d8]
 exact ⟨⟨h1, h2⟩, by by_cases h : CJ N = 0 <;> simp [h]⟩
def zT : TruthL := ⟨[], []⟩
def A20 : Ann := ann 21 [(55, Wv), (56, C56.spec OP)]
def Vv : Ann := ann 21 [(55, St)]
def C20 : Ctr := { α := NetL, xs := λ N => [.d (EZ N)], L := λ _ => [], val := λ N => .tup [.d (HZ (AP (AA N))), .int (CJ N), .int 0], keep := λ _ => [], pre := λ N => [AD N = 0, (AT N).isSome = true] }
def V20 (N : NetL) : Prop := BM Try.prog A20 Try.f20 (AJ Try.f20) (C20.xs N) (AE (C20.L N)) (C20.val N) (C20.keep N) [] [5016, 5017]
theorem vc20 (N : NetL) : (V20 N) = (let q := N
 let y0 : List Span := AC q.g.length λ (i : Nat) => gD q.g i
 let y1 := y0.length
 let y2 (i : Nat) : Span := gD y0 i
 let y3 : List Reach := AC q.r.length λ (i : Nat) => gD q.r i
 let y4 := y3.length
 let y5 (i : Nat) : Reach := gD y3 i
 let y6 (i : Nat) : Span := (y5 i).sp
 let y7 : NetL := NetL.mk y0 y3
 let y8 := (0 : Nat) = (0 : Nat)
 let y9 : Desk := AA y7
 let y10 : List Way := y9.all
 let y11 := y10.length
 let y12 (i : Nat) : Way := gD y10 i
 let y13 : List Way := AC y11 λ (i : Nat) => y12 i
 let y14 := y13.length
 let y15 := y14 = y11
 let y16 := y9.out
 let y17 := (↑y16 : Int) = (↑y16 : Int)
 let y18 := y9.nR
 let y19 := (↑y18 : Int) = (↑y18 : Int)
 let y20 (i : Nat) : Way := gD y13 i
 let y21 (i : Nat) := (y20 i).fr
 let y22 (i : Nat) := (y12 i).fr
 let y23 (i : Nat) := (y20 i).to
 let y24 (i : Nat) := (y12 i).to
 let y25 (i : Nat) : Span := (y20 i).sp
 let y26 (i : Nat) := (y25 i).lo
 let y27 (i : Nat) : Span := (y12 i).sp
 let y28 (i : Nat) := (y27 i).lo
 let y29 (i : Nat) := (y25 i).hi
 let y30 (i : Nat) := (y27 i).hi
 let y31 (i : Nat) := (y20 i).now
 let y32 (i : Nat) := (y12 i).now
 let y33 := y11 = y14
 let y34 : TruthL := AP (Desk.mk y13 y16 y18)
 let y35 (j : Nat) := (0 : Nat) + j
 ((y1 = N.g.length /\ (∀ (i : Nat), i < y1 -> (y2 i).lo = (gD N.g i).lo /\ (y2 i).hi = (gD N.g i).hi) /\ y4 = N.r.length /\ (∀ (i : Nat), i < y4 -> (y5 i).fr = (gD N.r i).fr /\ (y5 i).to = (gD N.r i).to /\ (y6 i).lo = (gD N.r i).sp.lo /\ (y6 i).hi = (gD N.r i).sp.hi) /\ AD y7 = (0 : Int) /\ (AT y7).isSome = true) /\ (y8 /\ y15 /\
 y17 /\ y19 /\ y15 /\ (∀ (i : Nat), i < y14 -> y21 i = y22 i /\ y23 i = y24 i /\ y26 i = y28 i /\ y29 i = y30 i /\ y31 i = y32 i) /\ y8 /\ y33 /\ y17
 /\ y19 /\ y33 /\ (∀ (i : Nat), i < y11 -> y22 i = y21 i /\ y24 i = y23 i /\ y28 i = y26 i /\ y30 i = y29 i /\ y32 i = y31 i) /\ ((1 : Nat) <= y16 /\ y14 <=
 (1000 : Nat)) /\ (y18 + y16).le y14) /\ (AP (AA N)).f.length = y18 /\ (0 : Nat) + y18 <= y18 /\ (∀ (j : Nat), j < (AP (AA N)).f.length -> gD (AP (AA N)).f j = gD y34.f
 (y35 j)) /\ (AP (AA N)).t.length = y16 /\ (0 : Nat) + y16 <= y16 /\ (∀ (j : Nat), j < (AP (AA N)).t.length -> gD (AP (AA N)).t j = gD y34.t (y35 j)) /\ CJ N = CJ y7 /\
 Int.ofNat (0 : Nat) = Int.ofNat (0 : Nat))) := by kernel_rfl
def C20b : Ctr := { α := NetL, xs := λ N => [.d (EZ N)], L := λ _ => [], val := λ N => .tup [.d (HZ zT), .int 0, .int (AD N)], keep := λ _ => [], pre := λ N => [AD N ≠ 0] }
def Wo (N : NetL) : Prop := BM Try.prog Vv Try.f20 (AJ Try.f20) (C20b.xs N) (AE (C20b.L N)) (C20b.val N) (C20b.keep N) [] []
theorem Xb (N : NetL) : (Wo N) = (((AC N.g.length λ (i : Nat) => gD N.g i).length = N.g.length /\ (∀ (i : Nat), i < (AC N.g.length λ (i : Nat) => gD N.g i).length -> (gD (AC N.g.length λ (i : Nat) => gD N.g
 i) i).lo = (gD N.g i).lo /\ (gD (AC N.g.length λ (i : Nat) => gD N.g i) i).hi = (gD N.g i).hi) /\ (AC N.r.length λ (i : Nat) => gD N.r i).length = N.r.length /\ (∀ (i : Nat), i < (AC N.r.length λ (i : Nat) => gD
 N.r i).length -> (gD (AC N.r.length λ (i : Nat) => gD N.r i) i).fr = (gD N.r i).fr /\ (gD (AC N.r.length λ (i : Nat) => gD N.r i) i).to = (gD N.r i).to /\ (gD (AC N.r.length λ (i : Nat) => gD N.r i) i).sp.lo = (gD
 N.r i).sp.lo /\ (gD (AC N.r.length λ (i : Nat) => gD N.r i) i).sp.hi = (gD N.r i).sp.hi) /\ (AD (NetL.mk (AC N.g.length λ (i : Nat) => gD N.g i) (AC N.r.length λ (i : Nat) => gD N.r i)) = (0 : Int) -> False)) /\
 bif AD (NetL.mk (AC N.g.length λ (i : Nat) => gD N.g i) (AC N.r.length λ (i : Nat) => gD N.r i)) != (0 : Int) then (0 : Nat) = (0 : Nat) /\ (0 : Nat) = (0 : Nat) /\ (0 : Nat) = (0 : Nat) /\ (0 : Nat) = (0 : Nat) /\
 Int.ofNat (0 : Nat) = Int.ofNat (0 : Nat) /\ AD N = AD (NetL.mk (AC N.g.length λ (i : Nat) => gD N.g i) (AC N.r.length λ (i : Nat) => gD N.r i)) else False) := by kernel_rfl
theorem p20 (N : NetL) (h1 : AD N = 0) (h2 : (AT N).isSome = true) : V20 N := by
 rw [vc20]; (conv => zeta); simp only [CC, eq_self, implies_true, forall_const, DL.d6, DL.d7, DL.d8]
 obtain ⟨l1, l2, l3⟩ := IZ h2
 have hg := DD h1
 have := hg.g1
 have := hg.g8
 have := hg.r14
 refine ⟨⟨h1, h2⟩, ⟨⟨by omega, by omega⟩, by omega⟩, ?_⟩
 simp [LF, KY]
theorem p20b (N : NetL) (h1 : AD N ≠ 0) : Wo N := by
 rw [Xb]; simp only [CC, eq_self, implies_true, forall_const, DL.d6, DL.d7, DL.d8]
 exact ⟨h1, by simp [h1]⟩
def FC (N : NetL) : Int := if AD N = 0 then if 0 < CJ N then 6 else 0 else AD N
def Zc : Ann := ann 21 [(55, Wv)]
def Ys : Ann := ann 21 [(55, St)]
def C73 : Ctr := { α := NetL, xs := λ N => [.d (EZ N)], L := λ _ => [], val := λ N => .tup [.bptr 0 0, .int 0], keep := λ N => [(0, .live (TY (AA N) 1)), (1, .live (UE (AA N)))], pre := λ N => [AD N = 0, (AT N).isSome = true, ¬ 0 < CJ N] }
def V73 (N : NetL) : Prop := BM Try.prog Zc Try.f73 (AJ Try.f73) (C73.xs N) (AE (C73.L N)) (C73.val N) (C73.keep N) [(0, 2016), (1, 2017)] []
theorem vc73 (N : NetL) : (V73 N) = (((AC N.g.length λ (i : Nat) => gD N.g i).length = N.g.length /\ (∀ (i : Nat), i < (AC N.g.length λ (i : Nat) => gD N.g i).length -> (gD (AC N.g.length λ (i : Nat) => gD N.g i)
 i).lo = (gD N.g i).lo /\ (gD (AC N.g.length λ (i : Nat) => gD N.g i) i).hi = (gD N.g i).hi) /\ (AC N.r.length λ (i : Nat) => gD N.r i).length = N.r.length /\ (∀ (i : Nat), i < (AC N.r.length λ (i : Nat) => gD N.r
 i).length -> (gD (AC N.r.length λ (i : Nat) => gD N.r i) i).fr = (gD N.r i).fr /\ (gD (AC N.r.length λ (i : Nat) => gD N.r i) i).to = (gD N.r i).to /\ (gD (AC N.r.length λ (i : Nat) => gD N.r i) i).sp.lo = (gD N.r
 i).sp.lo /\ (gD (AC N.r.length λ (i : Nat) => gD N.r i) i).sp.hi = (gD N.r i).sp.hi) /\ AD (NetL.mk (AC N.g.length λ (i : Nat) => gD N.g i) (AC N.r.length λ (i : Nat) => gD N.r i)) = (0 : Int) /\ (AT
 (NetL.mk (AC N.g.length λ (i : Nat) => gD N.g i) (AC N.r.length λ (i : Nat) => gD N.r i))).isSome = true) /\ bif bif (0 : Int) == (0 : Int) then decide (CJ (NetL.mk (AC N.g.length λ (i : Nat) => gD N.g i) (AC
 N.r.length λ (i : Nat) => gD N.r i)) > (0 : Int)) else false then Int.ofNat (0 : Nat) = Int.ofNat (6 : Nat) /\ (0 : Nat) = (0 : Nat) /\ (AA N).all.length = (AA (NetL.mk (AC N.g.length λ (i : Nat) => gD N.g i) (AC
 N.r.length λ (i : Nat) => gD N.r i))).all.length /\ (↑(AA N).out : Int) = (↑(AA (NetL.mk (AC N.g.length λ (i : Nat) => gD N.g i) (AC N.r.length λ (i : Nat) => gD N.r i))).out : Int) /\ (↑(AA N).nR : Int) =
 (↑(AA (NetL.mk (AC N.g.length λ (i : Nat) => gD N.g i) (AC N.r.length λ (i : Nat) => gD N.r i))).nR : Int) /\ (AA N).all.length = (AA (NetL.mk (AC N.g.length λ (i : Nat) => gD N.g i) (AC N.r.length λ (i
 : Nat) => gD N.r i))).all.length /\ ∀ (i : Nat), i < (AA N).all.length -> (gD (AA N).all i).fr = (gD (AA (NetL.mk (AC N.g.length λ (i : Nat) => gD N.g i) (AC N.r.length λ (i : Nat) => gD N.r i))).all i).fr /\
 (gD (AA N).all i).to = (gD (AA (NetL.mk (AC N.g.length λ (i : Nat) => gD N.g i) (AC N.r.length λ (i : Nat) => gD N.r i))).all i).to /\ (gD (AA N).all i).sp.lo = (gD (AA (NetL.mk (AC N.g.length λ (i : Nat)
 => gD N.g i) (AC N.r.length λ (i : Nat) => gD N.r i))).all i).sp.lo /\ (gD (AA N).all i).sp.hi = (gD (AA (NetL.mk (AC N.g.length λ (i : Nat) => gD N.g i) (AC N.r.length λ (i : Nat) => gD N.r i))).all i).sp.hi
 /\ (gD (AA N).all i).now = (gD (AA (NetL.mk (AC N.g.length λ (i : Nat) => gD N.g i) (AC N.r.length λ (i : Nat) => gD N.r i))).all i).now else Int.ofNat (0 : Nat) = Int.ofNat (0 : Nat) /\ (0 : Nat) = (0 : Nat) /\
 (AA N).all.length = (AA (NetL.mk (AC N.g.length λ (i : Nat) => gD N.g i) (AC N.r.length λ (i : Nat) => gD N.r i))).all.length /\ (↑(AA N).out : Int) = (↑(AA (NetL.mk (AC N.g.length λ (i : Nat) => gD N.g
 i) (AC N.r.length λ (i : Nat) => gD N.r i))).out : Int) /\ (↑(AA N).nR : Int) = (↑(AA (NetL.mk (AC N.g.length λ (i : Nat) => gD N.g i) (AC N.r.length λ (i : Nat) => gD N.r i))).nR : Int) /\ (AA N).all.length
 = (AA (NetL.mk (AC N.g.length λ (i : Nat) => gD N.g i) (AC N.r.length λ (i : Nat) => gD N.r i))).all.length /\ ∀ (i : Nat), i < (AA N).all.length -> (gD (AA N).all i).fr = (gD (AA (NetL.mk (AC N.g.length fun
 (i : Nat) => gD N.g i) (AC N.r.length λ (i : Nat) => gD N.r i))).all i).fr /\ (gD (AA N).all i).to = (gD (AA (NetL.mk (AC N.g.length λ (i : Nat) => gD N.g i) (AC N.r.length λ (i : Nat) => gD N.r i))).all
 i).to /\ (gD (AA N).all i).sp.lo = (gD (AA (NetL.mk (AC N.g.length λ (i : Nat) => gD N.g i) (AC N.r.length λ (i : Nat) => gD N.r i))).all i).sp.lo /\ (gD (AA N).all i).sp.hi = (gD (AA (NetL.mk (AC N.g.length
 λ (i : Nat) => gD N.g i) (AC N.r.length λ (i : Nat) => gD N.r i))).all i).sp.hi /\ (gD (AA N).all i).now = (gD (AA (NetL.mk (AC N.g.length λ (i : Nat) => gD N.g i) (AC N.r.length λ (i : Nat) => gD N.r
 i))).all i).now) := by kernel_rfl
def C73b : Ctr := { α := NetL, xs := λ N => [.d (EZ N)], L := λ _ => [], val := λ N => .tup [.any, .int (FC N)], keep := λ _ => [], pre := λ N => [FC N ≠ 0, AD N = 0 -> (AT N).isSome = true] }
def Xi (N : NetL) : Prop := BM Try.prog Zc Try.f73 (AJ Try.f73) (C73b.xs N) (AE (C73b.L N)) (C73b.val N) (C73b.keep N) [] []
theorem Xh (N : NetL) : (Xi N) = (((AC N.g.length λ (i : Nat) => gD N.g i).length = N.g.length /\ (∀ (i : Nat), i < (AC N.g.length λ (i : Nat) => gD N.g i).length -> (gD (AC N.g.length λ (i : Nat) => gD N.g
 i) i).lo = (gD N.g i).lo /\ (gD (AC N.g.length λ (i : Nat) => gD N.g i) i).hi = (gD N.g i).hi) /\ (AC N.r.length λ (i : Nat) => gD N.r i).length = N.r.length /\ (∀ (i : Nat), i < (AC N.r.length λ (i : Nat) => gD
 N.r i).length -> (gD (AC N.r.length λ (i : Nat) => gD N.r i) i).fr = (gD N.r i).fr /\ (gD (AC N.r.length λ (i : Nat) => gD N.r i) i).to = (gD N.r i).to /\ (gD (AC N.r.length λ (i : Nat) => gD N.r i) i).sp.lo = (gD
 N.r i).sp.lo /\ (gD (AC N.r.length λ (i : Nat) => gD N.r i) i).sp.hi = (gD N.r i).sp.hi) /\ AD (NetL.mk (AC N.g.length λ (i : Nat) => gD N.g i) (AC N.r.length λ (i : Nat) => gD N.r i)) = 0 /\ (AT (NetL.mk
 (AC N.g.length λ (i : Nat) => gD N.g i) (AC N.r.length λ (i : Nat) => gD N.r i))).isSome = true) /\ bif bif 0 == 0 then decide (CJ (NetL.mk (AC N.g.length λ (i : Nat) => gD N.g i) (AC N.r.length λ (i : Nat)
 => gD N.r i)) > 0) else false then FC N = 6 else FC N = 0) := by kernel_rfl
def Xz (N : NetL) : Prop := BM Try.prog Ys Try.f73 (AJ Try.f73) (C73b.xs N) (AE (C73b.L N)) (C73b.val N) (C73b.keep N) [] []
theorem Wn (N : NetL) : (Xz N) = (((AC N.g.length λ (i : Nat) => gD N.g i).length = N.g.length /\ (∀ (i : Nat), i < (AC N.g.length λ (i : Nat) => gD N.g i).length -> (gD (AC N.g.length λ (i : Nat) => gD N.g
 i) i).lo = (gD N.g i).lo /\ (gD (AC N.g.length λ (i : Nat) => gD N.g i) i).hi = (gD N.g i).hi) /\ (AC N.r.length λ (i : Nat) => gD N.r i).length = N.r.length /\ (∀ (i : Nat), i < (AC N.r.length λ (i : Nat) => gD
 N.r i).length -> (gD (AC N.r.length λ (i : Nat) => gD N.r i) i).fr = (gD N.r i).fr /\ (gD (AC N.r.length λ (i : Nat) => gD N.r i) i).to = (gD N.r i).to /\ (gD (AC N.r.length λ (i : Nat) => gD N.r i) i).sp.lo = (gD
 N.r i).sp.lo /\ (gD (AC N.r.length λ (i : Nat) => gD N.r i) i).sp.hi = (gD N.r i).sp.hi) /\ (AD (NetL.mk (AC N.g.length λ (i : Nat) => gD N.g i) (AC N.r.length λ (i : Nat) => gD N.r i)) = (0 : Int) -> False)) /\
 bif bif AD (NetL.mk (AC N.g.length λ (i : Nat) => gD N.g i) (AC N.r.length λ (i : Nat) => gD N.r i)) == (0 : Int) then decide ((0 : Int) > (0 : Int)) else false then FC N = (6 : Int) else FC N = AD
 (NetL.mk (AC N.g.length λ (i : Nat) => gD N.g i) (AC N.r.length λ (i : Nat) => gD N.r i))) := by kernel_rfl
theorem p73 (N : NetL) (h1 : AD N = 0) (h2 : (AT N).isSome = true) (h3 : ¬ 0 < CJ N) : V73 N := by
 rw [vc73]; simp only [CC, eq_self, implies_true, forall_const, DL.d6, DL.d7, DL.d8]
 exact ⟨⟨h1, h2⟩, by simp; omega⟩
theorem p73e (N : NetL) (h1 : AD N = 0) (h2 : (AT N).isSome = true) (h3 : 0 < CJ N) : Xi N := by
 rw [Xh]; simp only [CC, eq_self, implies_true, forall_const, DL.d6, DL.d7, DL.d8]
 exact ⟨⟨h1, h2⟩, by simp [FC, h1, h3]⟩
theorem p73b (N : NetL) (h1 : AD N ≠ 0) : Xz N := by
 rw [Wn]; simp only [CC, eq_self, implies_true, forall_const, DL.d6, DL.d7, DL.d8]
 exact ⟨h1, by simp [FC, h1]⟩
def WG (N : NetL) : List Int := (List.range N.g.length).map λ (i : Nat) => wr (-((HK (AA N) any N.g.length).m.far i).cost)
def Xr (N : NetL) : List (Nat × HCell) := [(201, .live (Hf (HK (AA N) any N.g.length).m (HK (AA N) any N.g.length).st))]
def A21 (N : NetL) : Ann := { ann 43 [(55, Wv), (57, Xa)] with mt := λ id => id == 9, loops := λ id => if id = 7 then some [{ α := Nat, dflt := 0, T := λ k => ⟨[(7, .mref 201), (8, .d HX), (29, .int N.g.length), (30, .int k)], Xr N⟩, inv := λ k => k = 0, meas := λ _ => N.g.length, first := [(201, 5112)] }, { α := Nat, dflt := 0, T := λ k => ⟨[(7, .mref 201), (8, .own 202 1 0 k), (29, .int N.g.length), (30, .int k)], Xr N ++ [(202, UB k (WG N))]⟩, inv := λ k => k <= N.g.length, meas := λ k => N.g.length - k, again := [(202, 10112)] }] else none }
def C21 : Ctr := { α := NetL, xs := λ N => [.d (EZ N)], L := λ _ => [], val := λ N => .tup [.d (CV (WG N)), .int 0], keep := λ _ => [], pre := λ N => [AD N = 0, (AT N).isSome = true, (EJ (AA N) any N.g.length).isSome = true] }
def V21 (N : NetL) : Prop := BM Try.prog (A21 N) Try.f21 (AJ Try.f21) (C21.xs N) (AE (C21.L N)) (C21.val N) (C21.keep N) [] [202]
theorem Zz (N : NetL) : (V21 N) = (let q := N
 let y0 : List Span := AC q.g.length λ (i : Nat) => gD q.g i
 let y1 := y0.length
 let y2 (i : Nat) : Span := gD y0 i
 let y3 : List Reach := AC q.r.length λ (i : Nat) => gD q.r i
 let y4 := y3.length
 let y5 (i : Nat) : Reach := gD y3 i
 let y6 (i : Nat) : Span := (y5 i).sp
 let y7 : NetL := NetL.mk y0 y3
 let y8 : Desk := AA y7
 let y9 := y8.out
 let y10 := (↑y9 : Int) = (↑y9 : Int)
 let y11 := (0 : Nat) = (0 : Nat)
 let y12 : List Way := y8.all
 let y13 := y12.length
 let y14 (i : Nat) : Way := gD y12 i
 let y15 : List Way := AC y13 λ (i : Nat) => y14 i
 let y16 := y15.length
 let y17 := y16 = y13
 let y18 := y8.nR
 let y19 := (↑y18 : Int) = (↑y18 : Int)
 let y20 (i : Nat) : Way := gD y15 i
 let y21 (i : Nat) := (y20 i).fr
 let y22 (i : Nat) := (y14 i).fr
 let y23 (i : Nat) := (y20 i).to
 let y24 (i : Nat) := (y14 i).to
 let y25 (i : Nat) : Span := (y20 i).sp
 let y26 (i : Nat) := (y25 i).lo
 let y27 (i : Nat) : Span := (y14 i).sp
 let y28 (i : Nat) := (y27 i).lo
 let y29 (i : Nat) := (y25 i).hi
 let y30 (i : Nat) := (y27 i).hi
 let y31 (i : Nat) := (y20 i).now
 let y32 (i : Nat) := (y14 i).now
 let y33 := y13 = y16
 let y34 : Desk := Desk.mk y15 y9 y18
 let y35 := (↑q.g.length : Int) = (↑q.g.length : Int)
 let y36 : RT := HK (AA q) any (↑q.g.length : Int)
 let y37 : Map := y36.m
 let y38 (n : Int) := (y37.at n).isSome
 let y39 : RT := HK y34 RL.counts (↑y9 : Int)
 let y40 : Map := y39.m
 let y41 (n : Int) := y36.st n
 let y42 (n : Int) : Far := y37.far n
 let y43 (n : Int) := (y42 n).cost
 let y44 (n : Int) : Far := y40.far n
 let y45 (n : Int) := (y42 n).many
 let y46 (n : Int) : Step := (y42 n).by'
 let y47 (n : Int) := (y46 n).way
 let y48 (n : Int) : Step := (y44 n).by'
 let y49 (n : Int) := (y46 n).back
 let y50 (a : Nat) := decide ((↑a : Int) < (↑q.g.length : Int))
 let y51 := Value.agg #[Value.int IntKind.i64 (0 : Int), Value.int IntKind.i64 (0 : Int), Value.int IntKind.i64 (0 : Int), Value.bool false] = BA
 let y52 := (0 : Nat) < (1 : Nat)
 let y53 := (1 : Nat) = (1 : Nat)
 let y54 := (1 : Nat) <= (1 : Nat) /\ (y52 -> y53)
 let y55 (a : Nat) (a1 : Nat) := (↑a : Int) = IntKind.i64.wrap ((↑a1 : Int) + (1 : Int))
 let y56 := ∀ (n : Int), y38 n = y38 n
 let y57 := ∀ (n : Int), y41 n = y41 n
 let y58 := ∀ (n : Int), y43 n = y43 n /\ y45 n = y45 n /\ y47 n = y47 n /\ y49 n = y49 n
 let y59 (a : Nat) := IntKind.i64.wrap ((0 : Int) - (y37.far (↑a : Int)).cost)
 let y60 (a : Nat) := q.g.length - a
 let y61 := (WG q).length = (0 : Nat)
 let y62 := Int.ofNat (0 : Nat) = Int.ofNat (0 : Nat)
 let y63 (a : Nat) := a + (1 : Nat)
 let y64 (a : Nat) (a1 : Nat) := a = y63 a1
 let y65 (a : Nat) := (0 : Nat) + a
 ((y1 = N.g.length /\ (∀ (i : Nat), i < y1 -> (y2 i).lo = (gD N.g i).lo /\ (y2 i).hi = (gD N.g i).hi) /\ y4 = N.r.length /\ (∀ (i : Nat), i < y4 -> (y5 i).fr = (gD N.r i).fr /\ (y5 i).to = (gD N.r i).to /\ (y6 i).lo = (gD N.r i).sp.lo /\ (y6 i).hi = (gD N.r i).sp.hi) /\ AD y7 = (0 : Int) /\ (AT y7).isSome = true) /\ (y10 /\ y11 /\
 y17 /\ y10 /\ y19 /\ y17 /\ (∀ (i : Nat), i < y16 -> y21 i = y22 i /\ y23 i = y24 i /\ y26 i = y28 i /\ y29 i = y30 i /\ y31 i = y32 i) /\ y11 /\ y33 /\ y10 /\ y19 /\ y33 /\ (∀ (i : Nat), i < y13 -> y22 i = y21 i /\ y24 i = y23 i /\ y28 i = y26 i /\ y30 i = y29 i /\ y32 i = y31 i) /\ y34.ok /\ ((0 :
 Int) <= (↑y9 : Int) /\ (↑y9 : Int) < (↑y9 : Int) + (2 : Int)) /\ (EJ y34 RL.counts (↑y9 : Int)).isSome = true) /\ (∃ (a : Nat), (y11 /\ (∀ (i : Nat), i < (0 : Nat) -> false = false) /\
 y35 /\ (↑a : Int) = (0 : Int) /\ BA = BA /\ (∀ (n : Int), y38 n = (y40.at n).isSome) /\ (∀ (n : Int), y41 n = y39.st n) /\ ∀ (n : Int), y43 n = (y44 n).cost /\ y45 n = (y44 n).many /\ y47 n = (y48 n).way /\ y49 n = (y48 n).back) /\ a = (0 : Nat)) /\ (∀ (a : Nat), a = (0 : Nat) -> bif y50 a then (y51 /\ (True /\ ((0 : Nat) < (0 : Nat) -> (0 : Nat) = (1 : Nat))) /\ y54 /\
 (true = true -> y52) /\ (1 : Nat) <= (9223372036854775807 : Nat) /\ (8 : Nat) <= (140737488355328 : Nat)) /\ ∃ (a_2 : Nat), (y11 /\ a_2 = (1 : Nat) /\ y35 /\ y55 a_2 a /\ BA = BA /\ y56 /\ y57 /\ y58
 /\ a_2 = (1 : Nat) /\ ∀ (i : Nat), i < a_2 -> gD (WG N) i = y59 a) /\ a_2.le N.g.length /\ y60 a_2 < N.g.length else y61 /\ y61 /\ y62) /\ ∀ (a : Nat), a.le N.g.length -> bif y50 a then (y51 /\ (a
 = a /\ ((0 : Nat) < a -> y53)) /\ y54 /\ (false = true -> y52) /\ y63 a <= (9223372036854775807 : Nat) /\ y63 a * (8 : Nat) <= (140737488355328 : Nat)) /\ ∃ (a_2 : Nat), (y11 /\ y64 a_2 a /\ y35 /\ y55 a_2 a /\ BA = BA /\ y56 /\ y57 /\ y58 /\ y64 a_2 a /\ ∀ (i : Nat), i < a_2 -> gD (WG N) i = bif decide (i < a) then gD (WG N) i else y59 a) /\ a_2.le N.g.length /\ y60 a_2 < y60 a else
 (WG N).length = a /\ y65 a <= a /\ (∀ (j : Nat), j < (WG N).length -> gD (WG N) j = gD (WG N) (y65 j)) /\ y62)) := by kernel_rfl
theorem p21 (N : NetL) (h1 : AD N = 0) (h2 : (AT N).isSome = true) (h3 : (EJ (AA N) any N.g.length).isSome = true) : V21 N := by
 rw [Zz]; (conv => zeta); simp only [CC, eq_self, implies_true, forall_const, DL.d6, DL.d7, DL.d8]
 obtain ⟨l1, l2, l3⟩ := IZ h2
 have hg := DD h1
 have g8 := hg.g8
 have hRL : RL.counts = any := rfl
 have hln : (WG N).length = N.g.length := by simp [WG]
 have hgd : ∀ i, i < N.g.length -> gD (WG N) i = wr (-((HK (AA N) any N.g.length).m.far i).cost) := λ i hi => DU (λ (i : Nat) => wr (-((HK (AA N) any N.g.length).m.far i).cost)) hi
 rw [hRL, l2]
 refine ⟨⟨h1, h2⟩, ⟨Eu h1 h2, ⟨by omega, by omega⟩, h3⟩, ⟨0, ⟨rfl, λ _ => rfl, λ _ => rfl, λ _ => ⟨rfl, rfl, rfl, rfl⟩⟩, rfl⟩, λ k hk => ⟨λ hlt => ?_, λ hge => by omega⟩, λ k hk => ⟨λ hlt => ?_, λ hge => ⟨by omega, Nat.le_refl _⟩⟩⟩
 ·subst hk
  refine ⟨⟨rfl, by decide, by decide, by decide, by decide, by decide⟩, 1, ⟨rfl, rfl, rfl, λ i hi => ?_⟩, by omega, by omega⟩
  have : i = 0 := by omega
  subst this; exact hgd 0 (by omega)
 ·refine ⟨⟨rfl, by decide, by decide, by omega, by omega⟩, k + 1, ⟨rfl, (BB (by omega)).symm, rfl, λ i hi => ?_⟩, by omega, by omega⟩
  by_cases hi2 : i < k
  ·simp [hi2]
  ·have : i = k := by omega
   subst this
   simp only [hi2, decide_false, cond_false]
   exact hgd i (by omega)
theorem ok19 : AL Try.prog 19 (C19.spec XP) := JC C19 (λ _ => A19) [] [] Try.func19 (λ _ => by kernel_rfl) (λ _ => AB Mc AH) (λ N h => p19 N h.1 h.2) (λ _ => KF rfl rfl) _
theorem ok20 : AL Try.prog 20 (C20.spec XP) := JC C20 (λ _ => A20) [] [5016, 5017] Try.func20 (λ _ => by kernel_rfl) (λ _ => AB Mc (AB Rj AH)) (λ N h => p20 N h.1 h.2) (λ _ => KF rfl rfl) _
theorem Sr : AL Try.prog 73 (C73.spec XP) := JC C73 (λ _ => Zc) [(0, 2016), (1, 2017)] [] Try.func73 (λ _ => by kernel_rfl) (λ _ => AB Mc AH) (λ N h => p73 N h.1 h.2.1 h.2.2) (λ _ => KF rfl rfl) _
theorem Jg {N : NetL} (h : FC N ≠ 0) : AD N ≠ 0 ∨ AD N = 0 /\ 0 < CJ N := by
 unfold FC at h
 by_cases h1 : AD N = 0
 ·rw [if_pos h1] at h
  by_cases h2 : 0 < CJ N
  ·exact .inr ⟨h1, h2⟩
  ·rw [if_neg h2] at h; exact absurd rfl h
 ·exact .inl h1
theorem Xw : AL Try.prog 73 (C73b.spec XP) := Ctr.spec_ok (C := C73b) (λ (N : NetL) ha => by
 obtain ⟨h1, h2⟩ : FC N ≠ 0 /\ (AD N = 0 -> (AT N).isSome = true) := ha
 rcases Jg h1 with h | ⟨h, h3⟩
 ·exact RX (A := Ys) (ren := []) (fz := []) Try.func73 (by kernel_rfl) (AB Ru AH) (p73b N h)
 ·exact RX (A := Zc) (ren := []) (fz := []) Try.func73 (by kernel_rfl) (AB Mc AH) (p73e N h (h2 h) h3)) _
theorem ok21 : AL Try.prog 21 (C21.spec XP) := JC C21 A21 [] [202] Try.func21 (λ _ => by kernel_rfl) (λ _ => AB Mc (AB Wg AH)) (λ N h => p21 N h.1 h.2.1 h.2.2) (λ _ => KF rfl rfl) _
end Go.Bal
