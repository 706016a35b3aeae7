/- Package balance: settle. -/
import Derived.Test.YtonddbmhljelgaaBalF
set_option linter.unusedVariables false
set_option linter.unusedSimpArgs false
namespace Go.Bal
open Go Go.Sym Go.Proofs
def V96 (x : Int) : Prop := BM Try.prog (ann 5 []) Try.f96 (AJ Try.f96) [.int x] (AE []) (.bool (decide (0 < x))) [] [] []
theorem vc96 (x : Int) : (V96 x) = (decide (0 < x) = decide (x > 0)) := by kernel_rfl
def f96 : List AVal -> Option (AVal × List Prop)
 | [.d (.v (.int .i64 x))] => some (.bool (decide (0 < x)), [])
 | _ => none
def s96 := FF f96
theorem ok96 : AL Try.prog 96 s96 := DO λ xs v p h _ => by
 unfold f96 at h; split at h
 ·cases h; exact RX (A := ann 5 []) (ren := []) (fz := []) Try.func96 (by kernel_rfl) AH (by show V96 _; rw [vc96])
 ·cases h
structure NI where
 n : Nat
 g : Nat -> Int
def Sn (n : Nat) (g : Nat -> Int) : AObj := .row 1 n λ i => CE (g i)
def A95 (a : NI) : Ann := { ann 19 [(96, s96)] with E := [100], loops := λ id => if id = 2 then some [{ α := Nat, dflt := 0, T := λ k => ⟨[(0, .own 100 1 0 a.n), (1, .fn (.func 96) [] []), (7, .int a.n), (8, .int k)], [(100, .live (Sn a.n a.g))]⟩, inv := λ k => k <= a.n /\ GC (λ i => decide (0 < a.g i)) a.n 0 = GC (λ i => decide (0 < a.g i)) (a.n - k) k, meas := λ k => a.n - k }] else none }
def C95 : Ctr := { ro := [100], α := NI, xs := λ a => [.own 100 1 0 a.n, .fn (.func 96) [] []], L := λ a => [(100, Sn a.n a.g)], val := λ a => .int (GC (λ i => decide (0 < a.g i)) a.n 0), keep := λ a => [(100, .live (Sn a.n a.g))], pre := λ a => [decide (a.n < 4611686018427387904) = true] }
def d95 : List AVal -> Heap -> Option (NI × List (Nat × Nat) × List Nat)
 | [.own id _ _ n, .fn _ _ []], H => match H id with
  | .live (.row _ _ get) => some (⟨n, λ i => EW (get i)⟩, [(100, id)], [])
  | _ => none
 | _, _ => none
def V95 (a : NI) : Prop := BM Try.prog (A95 a) Try.f95 (AJ Try.f95) (C95.xs a) (AE (C95.L a)) (C95.val a) (C95.keep a) [] []
theorem vc95 (a : NI) : (V95 a) = ((∃ (a_1 : Nat), (0 = 0 /\ a.n = a.n /\ (↑a.n : Int) = (↑a.n : Int) /\ (↑a_1 : Int) = 0 /\ a.n = a.n /\ ∀ (i : Nat), i < a.n -> a.g i = a.g i) /\ a_1 <= a.n /\ GC (λ (i : Nat) => decide (0 <
 a.g i)) a.n 0 = GC (λ (i : Nat) => decide (0 < a.g i)) (a.n - a_1) a_1) /\ ∀ (a_1 : Nat), a_1 <= a.n /\ GC (λ (i : Nat) => decide (0 < a.g i)) a.n 0 = GC (λ (i : Nat) => decide (0 < a.g i)) (a.n - a_1) a_1 -> bif
 decide ((↑a_1 : Int) < (↑a.n : Int)) then ((0 <= (↑a_1 : Int) /\ (↑a_1 : Int) < (↑a.n : Int)) /\ (0 + a_1).succ.le a.n) /\ bif decide (0 < a.g (0 + a_1)) then GC (λ (i : Nat) => decide (0 < a.g i)) a.n 0 = (↑a_1 : Int) /\
 a.n = a.n /\ ∀ (i : Nat), i < a.n -> a.g i = a.g i else ∃ (a_3 : Nat), (0 = 0 /\ a.n = a.n /\ (↑a.n : Int) = (↑a.n : Int) /\ (↑a_3 : Int) = IntKind.i64.wrap ((↑a_1 : Int) + 1) /\ a.n = a.n /\ ∀ (i : Nat), i < a.n -> a.g i = a.g
 i) /\ (a_3 <= a.n /\ GC (λ (i : Nat) => decide (0 < a.g i)) a.n 0 = GC (λ (i : Nat) => decide (0 < a.g i)) (a.n - a_3) a_3) /\ a.n - a_3 < a.n - a_1 else GC (λ (i : Nat) => decide (0 < a.g i)) a.n 0 = -1 /\ a.n = a.n
 /\ ∀ (i : Nat), i < a.n -> a.g i = a.g i) := by kernel_rfl
theorem p95 (a : NI) (h : a.n < 4611686018427387904) : V95 a := by
 rw [vc95]
 simp only [CC, eq_self, implies_true, forall_const]
 refine ⟨⟨0, rfl, Nat.zero_le _, rfl⟩, λ k ⟨h1, h2⟩ => ⟨λ hlt => ?_, λ hge => ?_⟩⟩
 ·have hlt : k < a.n := by omega
  refine ⟨⟨by omega, by omega⟩, λ hp => ?_, λ hp => ⟨k + 1, (BB (by omega)).symm, ⟨by omega, ?_⟩, by omega⟩⟩
  ·rw [h2]; exact UU hlt (by simpa using hp)
  ·rw [h2]; exact Dz hlt (by simpa using hp)
 ·rw [h2]; exact YI (by omega)
theorem ok95 : AL Try.prog 95 (C95.spec d95) := JC C95 A95 [] [] Try.func95 (λ _ => by kernel_rfl) (λ _ => AB ok96 AH) (λ a h => p95 a (of_decide_eq_true h)) (λ _ => KF rfl rfl) _
structure KD where
 k : Nat
 all : List Way
 deriving Inhabited
structure NQ where
 all : List Way
 p : Nat
 to : Int
 best : Far
 deriving Inhabited
def Tx : List AVal -> Heap -> Option (DM × List (Nat × Nat) × List Nat)
 | [.bptr id _, .d (.v (.int _ fr)), .d (.v (.int _ to)), .mref m, .d (.v (.int _ most))], H => match IG H id with
  | some (d, r) => some (⟨d, fr, to, (HK d any fr).m, (HK d any fr).st, most⟩, [(100, id), (101, r), (104, m)], [])
  | none => none
 | _, _ => none
def Gh (a : Desk) (all : List Way) : List (Nat × HCell) := JM (Desk.mk all a.out a.nR) ++ [(300, .live (.box [.fn (.func 93) [] []])), (301, .live (.row 1 10 λ i => CE (gD (AY (Desk.mk all a.out a.nR)) i)))]
def EN (a : Desk) (all : List Way) : Int := CP (AY (Desk.mk all a.out a.nR))
def CB (a : Desk) (all : List Way) : RT := HK (Desk.mk all a.out a.nR) any (EN a all)
def zF : Far := ⟨0, 0, ⟨0, false⟩⟩
def Ae (a : Desk) (df : Desk) (gs : List Nat) : Shape := { α := NQ, dflt := default, T := λ s => ⟨[(0, .bptr 100 0), (2, .bptr 300 0), (3, .rptr 301 1 0 0), (4, .int (EN a s.all)), (5, .mref 302), (6, .int s.to), (7, .bptr 303 0), (28, .d (Ju (AY (Desk.mk s.all a.out a.nR)))), (29, .int s.p)], Gh a s.all ++ [(302, .live (Hf (CB a s.all).m (CB a s.all).st)), (303, .live (Qd s.best))]⟩, inv := λ s => s.all.length = a.all.length /\ (Desk.mk s.all a.out a.nR).ok /\ AY (Desk.mk s.all a.out a.nR) ≠ List.replicate 10 0 /\ DW (gs.headD 0) (Desk.mk s.all a.out a.nR) = some df /\ s.p <= 10 /\ FA (CB a s.all).m (EN a s.all) ((AY (Desk.mk s.all a.out a.nR)).drop s.p) s.p (s.to, s.best) = FA (CB a s.all).m (EN a s.all) (AY (Desk.mk s.all a.out a.nR)) 0 (EN a s.all, zF), meas := λ s => 10 - s.p, first := [(302, 6048), (303, 7032)] }
def VO (a : Desk) (df : Desk) : Shape := { α := KD, dflt := default, T := λ s => ⟨[(0, .bptr 100 0), (2, .bptr 300 0), (3, .rptr 301 1 0 0)], Gh a s.all⟩, inv := λ s => s.all.length = a.all.length /\ (Desk.mk s.all a.out a.nR).ok /\ DW s.k (Desk.mk s.all a.out a.nR) = some df, meas := λ s => s.k, first := [(300, 1016), (301, 2032)], again := [(301, 18000)] }
def A68 (a : Desk) (df : Desk) : Ann := { ann 86 [(94, C94.spec OP), (95, C95.spec d95), (57, Yk), (97, C97.spec Tx)] with E := [100, 101], inner := λ gs id => if id = 2 then some [VO a df] else if id = 8 then some [Ae a df gs] else none }
def C68 : Ctr := { α := Desk, xs := λ _ => [.bptr 100 0], L := JH, val := λ _ => uV, keep := λ d => JM ((BY d).getD default), pre := λ d => [d.ok, (BY d).isSome = true] }
def V68 (a : Desk) : Prop := BM Try.prog (A68 a ((BY a).getD default)) Try.f68 (AJ Try.f68) (C68.xs a) (AE (C68.L a)) (C68.val a) (C68.keep a) [] []
theorem vc68 (a : Desk) : (V68 a) = (let qq := a
 let y0 := 0 = 0
 let y1 : List Way := AC qq.all.length λ (i : Nat) => gD qq.all i
 let y2 := y1.length
 let y3 := y2 = qq.all.length
 let y4 := (↑qq.out : Int) = (↑qq.out : Int)
 let y5 := (↑qq.nR : Int) = (↑qq.nR : Int)
 let y6 (i : Nat) : Way := gD y1 i
 let y7 (i : Nat) := (y6 i).fr
 let y8 (i : Nat) := (y6 i).to
 let y9 (i : Nat) : Span := (y6 i).sp
 let y10 (i : Nat) := (y9 i).lo
 let y11 (i : Nat) := (y9 i).hi
 let y12 (i : Nat) := (y6 i).now
 let y13 := qq.all.length = y2
 let y14 : Desk := Desk.mk y1 qq.out qq.nR
 let y15 := (Value.agg #[Value.int IntKind.i64 0, Value.int IntKind.i64 0, Value.int IntKind.i64 0, Value.int IntKind.i64 0, Value.int IntKind.i64 0, Value.int IntKind.i64 0, Value.int IntKind.i64 0, Value.int IntKind.i64 0, Value.int IntKind.i64 0, Value.int IntKind.i64 0]).cells.toList = (List.replicate 10 (Value.int IntKind.i64 0).cells.toList).flatten
 let y16 (a : KD) := a.all.length = qq.all.length
 let y17 := 10 = 10
 let y18 (a : KD) (i : Nat) := gD (AY (Desk.mk a.all qq.out qq.nR)) i
 let y19 (a : KD) := y16 a /\ (Desk.mk a.all qq.out qq.nR).ok /\ DW a.k (Desk.mk a.all qq.out qq.nR) = some ((BY qq).getD default)
 let y20 (a : KD) := ∀ (i : Nat), i < 10 -> y18 a i = y18 a i
 let y21 (a : KD) := GC (λ (i : Nat) => decide (0 < y18 a i)) 10 0
 let y22 (a : KD) : List Way := AC a.all.length λ (i : Nat) => gD a.all i
 let y23 (a : KD) := (y22 a).length
 let y24 (a : KD) := y23 a = a.all.length
 let y25 (a : KD) (i : Nat) : Way := gD (y22 a) i
 let y26 (a : KD) (i : Nat) := (y25 a i).fr
 let y27 (a : KD) (i : Nat) := (y25 a i).to
 let y28 (a : KD) (i : Nat) : Span := (y25 a i).sp
 let y29 (a : KD) (i : Nat) := (y28 a i).lo
 let y30 (a : KD) (i : Nat) := (y28 a i).hi
 let y31 (a : KD) (i : Nat) := (y25 a i).now
 let y32 (a : KD) := a.all.length = y23 a
 let y33 (a : KD) : Desk := Desk.mk (y22 a) qq.out qq.nR
 let y34 (a : NQ) (i : Nat) := gD (AY (Desk.mk a.all qq.out qq.nR)) i
 let y35 (a : NQ) (a2 : KD) := ∀ (i : Nat), i < 10 -> y34 a i = y18 a2 i
 let y36 (a : NQ) (a1 : KD) := a.all.length = a1.all.length
 let y37 (a : KD) : RT := HK (y33 a) RA.counts (y21 a)
 let y38 (a : KD) : Map := (y37 a).m
 let y39 (a : KD) (n : Int) : Far := (y38 a).far n
 let y40 (a : KD) (n : Int) : Step := (y39 a n).by'
 let y41 (a1 : KD) := (VO qq ((BY qq).getD default)).meas a1
 let y42 (a1 : KD) : List Nat := [y41 a1]
 let y43 (a : NQ) (a2 : KD) := a.all.length = qq.all.length /\ (Desk.mk a.all qq.out qq.nR).ok /\ AY (Desk.mk a.all qq.out qq.nR) ≠ List.replicate 10 0 /\ DW ((y42 a2).headD 0) (Desk.mk a.all qq.out qq.nR) = some ((BY qq).getD default) /\ a.p <= 10 /\ FA (CB qq a.all).m (EN qq a.all) (List.drop a.p (AY (Desk.mk a.all qq.out qq.nR))) a.p (a.to, a.best) = FA (CB qq a.all).m (EN qq a.all) (AY (Desk.mk a.all qq.out qq.nR)) 0 (EN qq a.all, zF)
 let y44 (a1 : NQ) (a2 : NQ) := EN qq a1.all = EN qq a2.all
 let y45 (a : NQ) (a2 : NQ) := ∀ (i : Nat), i < 10 -> y34 a i = y34 a2 i
 let y46 (a : NQ) (a1 : NQ) := (↑a.p : Int) = IntKind.i64.wrap ((↑a1.p : Int) + 1)
 let y47 (a : NQ) (a1 : NQ) := a.all.length = a1.all.length
 let y48 (a : NQ) (a1 : NQ) := ∀ (i : Nat), i < a.all.length -> (gD a.all i).fr = (gD a1.all i).fr /\ (gD a.all i).to = (gD a1.all i).to /\ (gD a.all i).sp.lo = (gD a1.all i).sp.lo /\ (gD a.all i).sp.hi = (gD a1.all i).sp.hi /\ (gD a.all i).now = (gD a1.all i).now
 let y49 (a1 : NQ) (a2 : NQ) := ∀ (n : Int), ((CB qq a1.all).m.at n).isSome = ((CB qq a2.all).m.at n).isSome
 let y50 (a1 : NQ) (a2 : NQ) := ∀ (n : Int), (CB qq a1.all).st n = (CB qq a2.all).st n
 let y51 (a1 : NQ) (a2 : NQ) := ∀ (n : Int), ((CB qq a1.all).m.far n).cost = ((CB qq a2.all).m.far n).cost /\ ((CB qq a1.all).m.far n).many = ((CB qq a2.all).m.far n).many /\ ((CB qq a1.all).m.far n).by'.way = ((CB qq a2.all).m.far n).by'.way /\ ((CB qq a1.all).m.far n).by'.back = ((CB qq a2.all).m.far n).by'.back
 let y52 (a1 : KD) (a2 : NQ) := (Ae qq ((BY qq).getD default) (y42 a1)).meas a2
 let y53 (a : NQ) (a2 : KD) (a3 : NQ) := y43 a a2 /\ y52 a2 a < y52 a2 a3
 let y54 (a1 : NQ) (a2 : KD) := ∃ (a_1 : NQ), (y0 /\ y44 a_1 a1 /\ a_1.to = a1.to /\ y17 /\ y45 a_1 a1 /\ y46 a_1 a1 /\ y0 /\ y47 a_1 a1 /\ y4 /\ y5 /\ y47 a_1 a1 /\ y48 a_1 a1 /\ y17 /\ y45 a_1 a1 /\ BA = BA /\ y49 a_1 a1 /\ y50 a_1 a1 /\ y51 a_1 a1 /\ a_1.best.cost = a1.best.cost /\ a_1.best.many = a1.best.many /\ a_1.best.by'.way = a1.best.by'.way /\ a_1.best.by'.back = a1.best.by'.back) /\ y53 a_1 a2 a1
 let y55 (a1 : NQ) : Far := (CB qq a1.all).m.far (↑a1.p : Int)
 let y56 (a1 : NQ) := (y55 a1).cost
 let y57 (a1 : NQ) := (y55 a1).many
 let y58 (a1 : NQ) : Step := (y55 a1).by'
 let y59 (a : NQ) := Ho (gD (AY (Desk.mk a.all qq.out qq.nR)) (EN qq a.all).toNat) (IntKind.i64.wrap (0 - gD (AY (Desk.mk a.all qq.out qq.nR)) a.to.toNat))
 let y60 (a : NQ) : List Way := AC a.all.length λ (i : Nat) => gD a.all i
 let y61 (a : NQ) := (y60 a).length
 let y62 (a : NQ) := y61 a = a.all.length
 let y63 (a : NQ) (i : Nat) : Way := gD (y60 a) i
 let y64 (a : NQ) (i : Nat) : Span := (y63 a i).sp
 let y65 (a : NQ) : Desk := Desk.mk (y60 a) qq.out qq.nR
 let y66 (a : NQ) : RT := HK (y65 a) any (EN qq a.all)
 let y67 (a : NQ) : Map := (y66 a).m
 let y68 (a : NQ) (n : Int) := ((y67 a).at n).isSome
 let y69 (a : NQ) (n : Int) := (y66 a).st n
 let y70 (a : NQ) (n : Int) : Far := (y67 a).far n
 let y71 (a : NQ) (n : Int) := (y70 a n).cost
 let y72 (a : NQ) (n : Int) := (y70 a n).many
 let y73 (a : NQ) (n : Int) : Step := (y70 a n).by'
 let y74 (a : NQ) (n : Int) := (y73 a n).way
 let y75 (a : NQ) (n : Int) := (y73 a n).back
 let y76 (a : NQ) : DM := DM.mk (y65 a) (EN qq a.all) a.to (y67 a) (y66 a).st (y59 a)
 let y77 (a : NQ) : List Step := (y76 a).tr
 let y78 (a : NQ) : List Way := AI (y76 a).q (y60 a) (y77 a)
 let y79 (a : NQ) := (y78 a).length
 let y80 (a : NQ) (i : Nat) : Way := gD (y78 a) i
 let y81 (a : NQ) : List Way := AC a.all.length λ (i : Nat) => y80 a i
 let y82 (a : NQ) := (y81 a).length
 let y83 (a : NQ) (i : Nat) : Way := gD (y81 a) i
 let y84 (a : NQ) (i : Nat) := (y83 a i).fr
 let y85 (a : NQ) (i : Nat) := (y80 a i).fr
 let y86 (a : NQ) (i : Nat) := (y83 a i).to
 let y87 (a : NQ) (i : Nat) := (y80 a i).to
 let y88 (a : NQ) (i : Nat) : Span := (y83 a i).sp
 let y89 (a : NQ) (i : Nat) := (y88 a i).lo
 let y90 (a : NQ) (i : Nat) : Span := (y80 a i).sp
 let y91 (a : NQ) (i : Nat) := (y90 a i).lo
 let y92 (a : NQ) (i : Nat) := (y88 a i).hi
 let y93 (a : NQ) (i : Nat) := (y90 a i).hi
 let y94 (a : NQ) (i : Nat) := (y83 a i).now
 let y95 (a : NQ) (i : Nat) := (y80 a i).now
 let y96 (a : NQ) : Desk := Desk.mk (y81 a) qq.out qq.nR
 let y97 := ((BY qq).getD default).all.length
 let y98 (a1 : KD) := y97 = a1.all.length
 let y99 (i : Nat) : Way := gD ((BY qq).getD default).all i
 let y100 (i : Nat) : Span := (y99 i).sp
 ((y0 /\ y3 /\ y4 /\ y5 /\ y3 /\ (∀ (i : Nat), i < y2 -> y7 i = (gD a.all i).fr /\ y8 i = (gD a.all i).to /\ y10 i = (gD a.all i).sp.lo /\ y11 i =
 (gD a.all i).sp.hi /\ y12 i = (gD a.all i).now) /\ y0 /\ y13 /\ y4 /\ y5 /\ y13 /\ (∀ (i : Nat), i < a.all.length -> (gD a.all i).fr = y7 i /\ (gD a.all i).to = y8 i /\ (gD a.all i).sp.lo =
 y10 i /\ (gD a.all i).sp.hi = y11 i /\ (gD a.all i).now = y12 i) /\ y14.ok /\ y15) /\ (∃ (a_1 : KD), (y0 /\ y0 /\ y16 a_1 /\ y4 /\ y5 /\ y16 a_1 /\ (∀ (i : Nat), i < a_1.all.length
 -> (gD a_1.all i).fr = (gD a.all i).fr /\ (gD a_1.all i).to = (gD a.all i).to /\ (gD a_1.all i).sp.lo = (gD a.all i).sp.lo /\ (gD a_1.all i).sp.hi = (gD a.all i).sp.hi /\ (gD a_1.all i).now = (gD a.all i).now) /\ y17 /\ ∀ (i
 : Nat), i < 10 -> y18 a_1 i = gD (AY y14) i) /\ y19 a_1) /\ ∀ (a_1 : KD), y19 a_1 -> y15 /\ bif !(gD (AY (Desk.mk a_1.all a.out a.nR)) 0 == 0 && (gD (AY (Desk.mk a_1.all a.out a.nR)) 1 == 0
 && (gD (AY (Desk.mk a_1.all a.out a.nR)) 2 == 0 && (gD (AY (Desk.mk a_1.all a.out a.nR)) 3 == 0 && (gD (AY (Desk.mk a_1.all a.out a.nR)) 4 == 0 && (gD (AY (Desk.mk a_1.all a.out a.nR)) 5 == 0 && (gD (AY
 (Desk.mk a_1.all a.out a.nR)) 6 == 0 && (gD (AY (Desk.mk a_1.all a.out a.nR)) 7 == 0 && (gD (AY (Desk.mk a_1.all a.out a.nR)) 8 == 0 && (gD (AY (Desk.mk a_1.all a.out a.nR)) 9 == 0 && true)))))))))) then (y0
 /\ y17 /\ y17 /\ y20 a_1 /\ y17 /\ y20 a_1 /\ true = true) /\ (y21 a_1 = y21 a_1 /\ y0 /\ y24 a_1 /\ y4 /\ y5 /\ y24 a_1 /\ (∀ (i : Nat), i < y23 a_1 -> y26 a_1 i = (gD a_1.all
 i).fr /\ y27 a_1 i = (gD a_1.all i).to /\ y29 a_1 i = (gD a_1.all i).sp.lo /\ y30 a_1 i = (gD a_1.all i).sp.hi /\ y31 a_1 i = (gD a_1.all i).now) /\ y0 /\ y32 a_1 /\ y4 /\ y5 /\ y32 a_1 /\ (∀ (i :
 Nat), i < a_1.all.length -> (gD a_1.all i).fr = y26 a_1 i /\ (gD a_1.all i).to = y27 a_1 i /\ (gD a_1.all i).sp.lo = y29 a_1 i /\ (gD a_1.all i).sp.hi = y30 a_1 i /\ (gD a_1.all i).now = y31 a_1 i) /\ (y33 a_1).ok /\ (0 <= y21 a_1 /\ y21 a_1 < (↑a.out : Int) + 2) /\ (EJ (y33 a_1) RA.counts (y21 a_1)).isSome = true) /\ (∃ (a_3 : NQ), (y0 /\ EN a a_3.all = y21 a_1 /\ a_3.to = y21 a_1 /\
 y17 /\ y35 a_3 a_1 /\ (↑a_3.p : Int) = 0 /\ y0 /\ y36 a_3 a_1 /\ y4 /\ y5 /\ y36 a_3 a_1 /\ (∀ (i : Nat), i < a_3.all.length -> (gD a_3.all i).fr = (gD a_1.all i).fr /\ (gD a_3.all i).to = (gD a_1.all
 i).to /\ (gD a_3.all i).sp.lo = (gD a_1.all i).sp.lo /\ (gD a_3.all i).sp.hi = (gD a_1.all i).sp.hi /\ (gD a_3.all i).now = (gD a_1.all i).now) /\ y17 /\ y35 a_3 a_1 /\ BA = BA /\ (∀ (n : Int), ((CB a
 a_3.all).m.at n).isSome = ((y38 a_1).at n).isSome) /\ (∀ (n : Int), (CB a a_3.all).st n = (y37 a_1).st n) /\ (∀ (n : Int), ((CB a a_3.all).m.far n).cost = (y39 a_1 n).cost /\ ((CB a a_3.all).m.far
 n).many = (y39 a_1 n).many /\ ((CB a a_3.all).m.far n).by'.way = (y40 a_1 n).way /\ ((CB a a_3.all).m.far n).by'.back = (y40 a_1 n).back) /\ a_3.best.cost = 0 /\ a_3.best.many = 0 /\ a_3.best.by'.way = 0
 /\ a_3.best.by'.back = false) /\ y43 a_3 a_1) /\ ∀ (a_3 : NQ), y43 a_3 a_1 -> bif decide ((↑a_3.p : Int) < 10) then (0 <= (↑a_3.p : Int) /\ (↑a_3.p : Int) < (↑10 : Int)) /\ Value.agg #[Value.int IntKind.i64 0,
 Value.int IntKind.i64 0, Value.int IntKind.i64 0, Value.bool false] = BA /\ bif bif decide (gD (AY (Desk.mk a_3.all a.out a.nR)) a_3.p >= 0) then true else !((CB a a_3.all).m.at (↑a_3.p : Int)).isSome then y54 a_3 a_1 else bif bif bif a_3.to == EN a a_3.all then true else decide (y56 a_3 < a_3.best.cost) then true else bif y56 a_3 == a_3.best.cost then decide (y57 a_3 < a_3.best.many) else false then ∃ (a_5
 : NQ), (y0 /\ y44 a_5 a_3 /\ a_5.to = (↑a_3.p : Int) /\ y17 /\ y45 a_5 a_3 /\ y46 a_5 a_3 /\ y0 /\ y47 a_5 a_3 /\ y4 /\ y5 /\ y47 a_5 a_3 /\ y48 a_5 a_3 /\ y17 /\ y45 a_5 a_3 /\ BA =
 BA /\ y49 a_5 a_3 /\ y50 a_5 a_3 /\ y51 a_5 a_3 /\ a_5.best.cost = y56 a_3 /\ a_5.best.many = y57 a_3 /\ a_5.best.by'.way = (y58 a_3).way /\ a_5.best.by'.back = (y58 a_3).back) /\ y53 a_5 a_1 a_3 else y54 a_3 a_1 else ((0 <= EN a a_3.all /\ EN a a_3.all < (↑10 : Int)) /\ (EN a a_3.all).toNat < 10 /\ (0 <= a_3.to /\ a_3.to < (↑10 : Int)) /\ a_3.to.toNat < 10 /\ EN a a_3.all = EN a
 a_3.all /\ a_3.to = a_3.to /\ y59 a_3 = y59 a_3 /\ y0 /\ y62 a_3 /\ y4 /\ y5 /\ y62 a_3 /\ (∀ (i : Nat), i < y61 a_3 -> (y63 a_3 i).fr = (gD a_3.all i).fr /\ (y63 a_3 i).to = (gD a_3.all i).to
 /\ (y64 a_3 i).lo = (gD a_3.all i).sp.lo /\ (y64 a_3 i).hi = (gD a_3.all i).sp.hi /\ (y63 a_3 i).now = (gD a_3.all i).now) /\ BA = BA /\ (∀ (n : Int), y68 a_3 n = ((CB a a_3.all).m.at n).isSome) /\ (∀ (n :
 Int), y69 a_3 n = (CB a a_3.all).st n) /\ (∀ (n : Int), y71 a_3 n = ((CB a a_3.all).m.far n).cost /\ y72 a_3 n = ((CB a a_3.all).m.far n).many /\ y74 a_3 n = ((CB a a_3.all).m.far n).by'.way
 /\ y75 a_3 n = ((CB a a_3.all).m.far n).by'.back) /\ y0 /\ a_3.all.length = y79 a_3 /\ y4 /\ y5 /\ BA = BA /\ (∀ (n : Int), ((CB a a_3.all).m.at n).isSome = y68 a_3 n) /\ (∀ (n : Int),
 (CB a a_3.all).st n = y69 a_3 n) /\ (∀ (n : Int), ((CB a a_3.all).m.far n).cost = y71 a_3 n /\ ((CB a a_3.all).m.far n).many = y72 a_3 n /\ ((CB a a_3.all).m.far n).by'.way = y74 a_3 n /\
 ((CB a a_3.all).m.far n).by'.back = y75 a_3 n) /\ (y65 a_3).ok /\ (EK (y65 a_3) (y67 a_3) (EN a a_3.all) fuel a_3.to).isSome = true /\ (∀ (s : Step), List.Mem s (y77 a_3) -> 0 <= s.way /\
 s.way < (↑(y61 a_3) : Int)) /\ (y77 a_3).length.le 1000) /\ y15 /\ (y0 /\ y82 a_3 = a_3.all.length /\ y4 /\ y5 /\ y82 a_3 = y79 a_3 /\ (∀ (i : Nat), i < y82 a_3 -> y84 a_3 i =
 y85 a_3 i /\ y86 a_3 i = y87 a_3 i /\ y89 a_3 i = y91 a_3 i /\ y92 a_3 i = y93 a_3 i /\ y94 a_3 i = y95 a_3 i) /\ y0 /\ a_3.all.length = y82 a_3 /\ y4 /\ y5 /\ y79 a_3 = y82 a_3 /\ (∀ (i : Nat), i < y79 a_3 -> y85 a_3 i = y84 a_3 i /\ y87 a_3 i = y86 a_3 i /\ y91 a_3 i = y89 a_3 i /\ y93 a_3 i = y92 a_3 i /\ y95 a_3 i = y94 a_3 i) /\ (y96 a_3).ok) /\ ∃ (a_5 : KD), (y0 /\ y0 /\ a_5.all.length = a_3.all.length /\ y4 /\ y5 /\ a_5.all.length = y79 a_3 /\ (∀ (i : Nat), i < a_5.all.length -> (gD a_5.all i).fr = y85 a_3 i /\ (gD
 a_5.all i).to = y87 a_3 i /\ (gD a_5.all i).sp.lo = y91 a_3 i /\ (gD a_5.all i).sp.hi = y93 a_3 i /\ (gD a_5.all i).now = y95 a_3 i) /\ y17 /\ ∀ (i : Nat), i < 10 -> y18 a_5 i = gD (AY (y96 a_3)) i) /\ y19 a_5 /\ y41 a_5 < y41 a_1 else y0 /\ y98 a_1 /\ (↑((BY a).getD default).out : Int) = (↑a.out : Int) /\ (↑((BY a).getD default).nR : Int) = (↑a.nR : Int) /\ y98 a_1 /\ ∀ (i
 : Nat), i < y97 -> (y99 i).fr = (gD a_1.all i).fr /\ (y99 i).to = (gD a_1.all i).to /\ (y100 i).lo = (gD a_1.all i).sp.lo /\ (y100 i).hi = (gD a_1.all i).sp.hi /\ (y99 i).now = (gD a_1.all
 i).now)) := by kernel_rfl
theorem Rl (d : Desk) : GC (λ (i : Nat) => decide (0 < gD (AY d) i)) 10 0 = CP (AY d) := rfl
theorem VB : ∀ (r : List Way) (l : List Int), (PX l r).length = l.length
 | [], _ => rfl
 | w :: r, l => by simp only [PX]; rw [VB r]; simp
theorem FO (d : Desk) : (AY d).length = 10 := by unfold AY; rw [VB]; simp
theorem Da {l : List Int} (h : l.length = 10) : (gD l 0 == 0 && (gD l 1 == 0 && (gD l 2 == 0 && (gD l 3 == 0 && (gD l 4 == 0 && (gD l 5 == 0 && (gD l 6 == 0 && (gD l 7 == 0 && (gD l 8 == 0 && (gD l 9 == 0 && true)))))))))) = true ↔ l = List.replicate 10 0 := by
 match l, h with
 | [a, b, c, d, e, f, g, h, i, j], _ => simp [gD, List.replicate]
theorem Gi (q : Int) (l : List Step) (all : List Way) : AC all.length (λ i => gD (AI q all l) i) = AI q all l := by
 conv => lhs; rw [<- BJ q l all]
 exact MM _
theorem Hv (q : Int) (all : List Way) (s : Step) (i : Nat) : (gD (DH q all s) i).fr = (gD all i).fr /\ (gD (DH q all s) i).to = (gD all i).to /\ (gD (DH q all s) i).sp = (gD all i).sp := by
 unfold DH
 by_cases h : s.way.toNat < all.length
 ·rw [BR h]; split
  ·rename_i he; subst he; exact ⟨rfl, rfl, rfl⟩
  ·exact ⟨rfl, rfl, rfl⟩
 ·have : all.modify s.way.toNat (λ w => { w with now := if s.back then wr (w.now - q) else wr (w.now + q) }) = all := by
   apply List.ext_getElem?; intro j; rw [List.getElem?_modify]
   by_cases hj : s.way.toNat = j
   ·subst hj; rw [List.getElem?_eq_none (by omega)]; rfl
   ·simp [hj]
  rw [this]; exact ⟨rfl, rfl, rfl⟩
theorem NX (q : Int) : ∀ (l : List Step) (all : List Way) (i : Nat), (gD (AI q all l) i).fr = (gD all i).fr /\ (gD (AI q all l) i).to = (gD all i).to /\ (gD (AI q all l) i).sp = (gD all i).sp
 | [], _, _ => ⟨rfl, rfl, rfl⟩
 | s :: l, all, i => by
  obtain ⟨h1, h2, h3⟩ := NX q l (DH q all s) i
  obtain ⟨h4, h5, h6⟩ := Hv q all s i
  simp only [AI]
  exact ⟨h1.trans h4, h2.trans h5, h3.trans h6⟩
theorem Dn {d : Desk} (h : d.ok) (q : Int) (l : List Step) : (Desk.mk (AI q d.all l) d.out d.nR).ok := by
 refine ⟨h.out, ?_, ?_, λ i hi => ?_⟩
 ·show (AI q d.all l).length <= 23; rw [BJ]; exact h.len
 ·show _ <= (AI q d.all l).length; rw [BJ]; exact h.cut
 ·have hi : i < (AI q d.all l).length := hi
  rw [BJ] at hi
  obtain ⟨h1, h2, _⟩ := NX q l d.all i
  show (0 <= (gD (AI q d.all l) i).fr /\ _) /\ _
  rw [h1, h2]
  exact h.ends i hi
theorem Av (m : Map) (fr : Int) (hf : 0 <= fr /\ fr < 10) : ∀ (l : List Int) (p : Nat) (st : Int × Far), p + l.length <= 10 -> (0 <= st.1 /\ st.1 < 10) -> 0 <= (FA m fr l p st).1 /\ (FA m fr l p st).1 < 10
 | [], _, _, _, h => h
 | x :: l, p, st, hp, h => by
  simp only [List.length_cons] at hp
  simp only [FA]
  refine Av m fr hf l (p + 1) _ (by omega) ?_
  cases m.at p with
  | none => exact h
  | some f =>
   simp only
   split
   ·exact h
   ·split
    ·exact ⟨by simp, by simp; omega⟩
    ·exact h
def MY (d : Desk) (to : Int) : DM := DM.mk d (CP (AY d)) to (HK d any (CP (AY d))).m (HK d any (CP (AY d))).st (min (gD (AY d) (CP (AY d)).toNat) (wr (-gD (AY d) to.toNat)))
theorem XI {d df : Desk} {k : Nat} (hne : AY d ≠ List.replicate 10 0) (h : DW k d = some df) : ∃ k', k = k' + 1 /\ (0 <= CP (AY d) /\ CP (AY d) < d.out + 2) /\ (EJ d any (CP (AY d))).isSome = true /\
  ∀ to, to = (FA (HK d any (CP (AY d))).m (CP (AY d)) (AY d) 0 (CP (AY d), zF)).1 -> (EK d (MY d to).m (CP (AY d)) fuel to).isSome = true /\ (∀ s ∈ (MY d to).tr, 0 <= s.way /\ s.way < d.all.length) /\ (MY d to).tr.length <= 1000 /\ DW k' (Desk.mk (AI (MY d to).q d.all (MY d to).tr) d.out d.nR) = some df := by
 cases k with
 | zero => cases h
 | succ k =>
  simp only [DW, if_neg hne] at h
  split at h
  ·cases h
  rename_i d1 hd1
  unfold GN at hd1
  simp only at hd1
  split at hd1
  ·cases hd1
  rename_i hfr
  split at hd1
  ·cases hd1
  rename_i r hr
  have hrf : HK d any (CP (AY d)) = r := by simp [HK, hr]
  refine ⟨k, rfl, by omega, by rw [hr]; rfl, λ to hto => ?_⟩
  rw [hrf] at hto
  have hz : zF = ⟨0, 0, ⟨0, false⟩⟩ := rfl
  rw [hz] at hto
  rw [<- hto] at hd1
  unfold JT at hd1
  split at hd1
  ·cases hd1
  rename_i d2 q2 h2
  split at h2
  ·cases h2
  rename_i l hl
  split at h2
  ·rename_i hg
   have hX : (MY d to).m = r.m := by simp only [MY, hrf]
   have htr : (MY d to).tr = l := by
    unfold DM.tr
    rw [hX]
    show (EK d r.m (CP (AY d)) fuel to).getD [] = l
    rw [hl]; rfl
   have hqq : (MY d to).q = CY d (min (gD (AY d) (CP (AY d)).toNat) (wr (-gD (AY d) to.toNat))) l := by
    unfold DM.q; rw [htr]; rfl
   simp only [Bool.and_eq_true, List.all_eq_true, decide_eq_true_eq] at hg
   rw [hX, htr, hqq, hl]
   cases h2; cases hd1
   exact ⟨rfl, hg.1, hg.2, h⟩
  ·cases h2
theorem Cp (to fr : Int) (f best : Far) : (bif bif to == fr then true else decide (f.cost < best.cost) then true else bif f.cost == best.cost then decide (f.many < best.many) else false) = (decide (to = fr) || better f best) := by
 unfold better
 by_cases h1 : to = fr <;> by_cases h2 : f.cost < best.cost <;> by_cases h3 : f.cost = best.cost <;> simp [h1, h2, h3]
theorem VR {l : List Int} (h : l.length = 10) (m : Map) (fr : Int) {p : Nat} (hp : p < 10) (to : Int) (best : Far) : FA m fr (l.drop p) p (to, best) = FA m fr (l.drop (p + 1)) (p + 1) (if (bif decide (gD l p >= 0) then true else !(m.at p).isSome) then (to, best) else if decide (to = fr) || better (m.far p) best then ((p : Int), m.far p) else (to, best)) := by
 rw [DX (by omega)]
 simp only [FA]
 congr 1
 cases hq : m.at p with
 | none => by_cases h0 : 0 <= gD l p <;> simp [h0]
 | some f =>
  have hf : m.far p = f := by simp [Map.far, hq]
  by_cases h0 : 0 <= gD l p <;> simp [h0, hf]
theorem Bi (a df : Desk) (s : KD) : (VO a df).meas s = s.k := rfl
theorem Bz (a df : Desk) (gs : List Nat) (s : NQ) : (Ae a df gs).meas s = 10 - s.p := rfl
theorem p68 (a : Desk) (hd : a.ok) (hr : (BY a).isSome = true) : V68 a := by
 have hrf : DW fuel a = some ((BY a).getD default) := by
  obtain ⟨r, h⟩ := Option.isSome_iff_exists.1 hr
  rw [h]; exact h
 have hRA : RA.counts = any := rfl
 rw [vc68]; (conv => zeta)
 simp only [CC, eq_self, implies_true, forall_const, Bi, Bz, List.headD_cons, Rl, EN, CB, hRA, YH, BJ, Gi]
 generalize (BY a).getD default = df at *
 have hz : (Value.agg #[Value.int IntKind.i64 0, Value.int IntKind.i64 0, Value.int IntKind.i64 0, Value.int IntKind.i64 0, Value.int IntKind.i64 0, Value.int IntKind.i64 0, Value.int IntKind.i64 0, Value.int IntKind.i64 0, Value.int IntKind.i64 0, Value.int IntKind.i64 0]).cells.toList = (List.replicate 10 (Value.int IntKind.i64 0).cells.toList).flatten := rfl
 refine ⟨⟨hd, hz⟩, ⟨⟨fuel, a.all⟩, ⟨rfl, rfl, λ _ _ => ⟨rfl, rfl, rfl, rfl, rfl⟩, λ _ _ => rfl⟩, rfl, hd, hrf⟩, λ a1 ⟨h1, h2, h3⟩ => ⟨hz, λ hne => ?_, λ heq => ?_⟩⟩
 ·have hne : AY (Desk.mk a1.all a.out a.nR) ≠ List.replicate 10 0 := λ he => by
   rw [(Da (FO _)).2 he] at hne; cases hne
  obtain ⟨k', hk, hfr, hrv, hnx⟩ := XI hne h3
  refine ⟨⟨h2, hfr, hrv⟩, ⟨⟨a1.all, 0, _, zF⟩, ⟨rfl, rfl, λ _ _ => rfl, rfl, rfl, rfl, λ _ _ => ⟨rfl, rfl, rfl, rfl, rfl⟩, λ _ _ => rfl, λ _ => rfl, λ _ => rfl, λ _ => ⟨rfl, rfl, rfl, rfl⟩, rfl, rfl, rfl, rfl⟩, h1, h2, hne, h3, by simp, rfl⟩, λ a4 ⟨g1, g2, g3, g4, g5, g6⟩ => ⟨λ hlt => ⟨⟨by omega, hlt⟩, rfl, λ hc => ?_, λ hc => ⟨λ hb => ?_, λ hb => ?_⟩⟩, λ hge => ?_⟩⟩
  ·have hlt : a4.p < 10 := by omega
   rw [VR (FO _) _ _ hlt, hc] at g6
   exact ⟨⟨a4.all, a4.p + 1, a4.to, a4.best⟩, ⟨rfl, rfl, λ _ _ => rfl, (BB (by omega)).symm, rfl, rfl, λ _ _ => ⟨rfl, rfl, rfl, rfl, rfl⟩, λ _ _ => rfl, λ _ => rfl, λ _ => rfl, λ _ => ⟨rfl, rfl, rfl, rfl⟩, rfl, rfl, rfl, rfl⟩, ⟨g1, g2, g3, g4, hlt, g6⟩, by show _ - (a4.p + 1) < _; omega⟩
  ·have hlt : a4.p < 10 := by omega
   have hb := (Cp _ _ _ _).symm.trans hb
   rw [VR (FO _) _ _ hlt, hc, hb] at g6
   exact ⟨⟨a4.all, a4.p + 1, a4.p, _⟩, ⟨rfl, rfl, λ _ _ => rfl, (BB (by omega)).symm, rfl, rfl, λ _ _ => ⟨rfl, rfl, rfl, rfl, rfl⟩, λ _ _ => rfl, λ _ => rfl, λ _ => rfl, λ _ => ⟨rfl, rfl, rfl, rfl⟩, rfl, rfl, rfl, rfl⟩, ⟨g1, g2, g3, g4, hlt, g6⟩, by show _ - (a4.p + 1) < _; omega⟩
  ·have hlt : a4.p < 10 := by omega
   have hb := (Cp _ _ _ _).symm.trans hb
   rw [VR (FO _) _ _ hlt, hc, hb] at g6
   exact ⟨⟨a4.all, a4.p + 1, a4.to, a4.best⟩, ⟨rfl, rfl, λ _ _ => rfl, (BB (by omega)).symm, rfl, rfl, λ _ _ => ⟨rfl, rfl, rfl, rfl, rfl⟩, λ _ _ => rfl, λ _ => rfl, λ _ => rfl, λ _ => ⟨rfl, rfl, rfl, rfl⟩, rfl, rfl, rfl, rfl⟩, ⟨g1, g2, g3, g4, hlt, g6⟩, by show _ - (a4.p + 1) < _; omega⟩
  ·have hp : a4.p = 10 := by omega
   rw [hp, List.drop_eq_nil_of_le (by rw [FO]; omega)] at g6
   have g6 : (a4.to, a4.best) = _ := g6
   obtain ⟨k2, hk2, hfr2, _, hnx2⟩ := XI g3 g4
   have ho := h2.out
   have hfr3 : 0 <= CP (AY (Desk.mk a4.all a.out a.nR)) /\ CP (AY (Desk.mk a4.all a.out a.nR)) < 10 := ⟨hfr2.1, by have := hfr2.2; simp only at this ho; omega⟩
   have hto : a4.to = _ := congrArg Prod.fst g6
   have hto2 : 0 <= a4.to /\ a4.to < 10 := by rw [hto]; exact Av _ _ hfr3 _ _ _ (by rw [FO]; omega) hfr3
   obtain ⟨t1, t2, t3, t4⟩ := hnx2 _ hto
   have hokp := Dn g2 (MY (Desk.mk a4.all a.out a.nR) a4.to).q (MY (Desk.mk a4.all a.out a.nR) a4.to).tr
   exact ⟨⟨hfr3, by omega, hto2, by omega, g2, t1, t2, t3⟩, hz, hokp, ⟨k2, AI (MY (Desk.mk a4.all a.out a.nR) a4.to).q a4.all (MY (Desk.mk a4.all a.out a.nR) a4.to).tr⟩, ⟨BJ _ _ _, BJ _ _ _, λ _ _ => ⟨rfl, rfl, rfl, rfl, rfl⟩, λ _ _ => rfl⟩, ⟨(BJ _ _ _).trans g1, hokp, t4⟩, by show k2 < a1.k; omega⟩
 ·have he : AY (Desk.mk a1.all a.out a.nR) = List.replicate 10 0 := (Da (FO _)).1 heq
  cases hk : a1.k with
  | zero => rw [hk] at h3; cases h3
  | succ k =>
   rw [hk] at h3
   simp only [DW, if_pos he] at h3
   cases h3
   exact ⟨rfl, rfl, rfl, rfl, λ _ _ => ⟨rfl, rfl, rfl, rfl, rfl⟩⟩
theorem Wh : AL Try.prog 68 (C68.spec OP) := JC C68 (λ a => A68 a ((BY a).getD default)) [] [] Try.func68 (λ _ => by kernel_rfl) (λ _ => AB ok94 (AB ok95 (AB Vu (AB (Ya _) AH)))) (λ a h => p68 a h.1 h.2) (λ _ => KF rfl rfl) _
end Go.Bal
