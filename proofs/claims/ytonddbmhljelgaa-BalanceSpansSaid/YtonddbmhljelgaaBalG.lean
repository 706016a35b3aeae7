/- Package balance: settle. -/
import Derived.Test.YtonddbmhljelgaaBalF
set_option linter.unusedVariables false
set_option linter.unusedSimpArgs false
namespace Go.Bal
open Go Go.Sym Go.Proofs
def V96 (x : Int) : Prop := BC Try.prog (ann 5 []) Try.f96 (AH Try.f96) [.int x] (AE []) (.bool (decide (0 < x))) [] [] []
theorem vc96 (x : Int) : (V96 x) = (decide (0 < x) = decide (x > 0)) := by kernel_rfl
def f96 : List AVal -> Option (AVal × List Prop)
 | [.d (.v (.int .i64 x))] => some (.bool (decide (0 < x)), [])
 | _ => none
def s96 := DX f96
theorem ok96 : AI Try.prog 96 s96 := CE λ xs v p h _ => by
 unfold f96 at h; split at h
 ·cases h; exact NE (A := ann 5 []) (ren := []) (fz := []) Try.func96 (by kernel_rfl) AF (by show V96 _; rw [vc96])
 ·cases h
structure NI where
 n : Nat
 g : Nat -> Int
def rowI (n : Nat) (g : Nat -> Int) : AObj := .row 1 n λ i => CI (g i)
def A95 (a : NI) : Ann := { ann 19 [(96, s96)] with E := [100], loops := λ id => if id = 2 then some [{ α := Nat, dflt := 0, T := λ k => ⟨[(0, .own 100 1 0 a.n), (1, .fn (.func 96) [] []), (7, .int a.n), (8, .int k)], [(100, .live (rowI a.n a.g))]⟩, inv := λ k => k <= a.n /\ GQ (λ i => decide (0 < a.g i)) a.n 0 = GQ (λ i => decide (0 < a.g i)) (a.n - k) k, meas := λ k => a.n - k }] else none }
def C95 : Ctr := { ro := [100], α := NI, xs := λ a => [.own 100 1 0 a.n, .fn (.func 96) [] []], L := λ a => [(100, rowI a.n a.g)], val := λ a => .int (GQ (λ i => decide (0 < a.g i)) a.n 0), keep := λ a => [(100, .live (rowI a.n a.g))], pre := λ a => [decide (a.n < 4611686018427387904) = true] }
def d95 : List AVal -> Heap -> Option (NI × List (Nat × Nat) × List Nat)
 | [.own id _ _ n, .fn _ _ []], H => match H id with
  | .live (.row _ _ get) => some (⟨n, λ i => FH (get i)⟩, [(100, id)], [])
  | _ => none
 | _, _ => none
def V95 (a : NI) : Prop := BC Try.prog (A95 a) Try.f95 (AH Try.f95) (C95.xs a) (AE (C95.L a)) (C95.val a) (C95.keep a) [] []
theorem vc95 (a : NI) : (V95 a) = ((∃ (a_1 : Nat), (0 = 0 /\ a.n = a.n /\ (↑a.n : Int) = (↑a.n : Int) /\ (↑a_1 : Int) = 0 /\ a.n = a.n /\ ∀ (i : Nat), i < a.n -> a.g i = a.g i) /\ a_1 <= a.n /\ GQ (λ (i : Nat) => decide (0 <
 a.g i)) a.n 0 = GQ (λ (i : Nat) => decide (0 < a.g i)) (a.n - a_1) a_1) /\ ∀ (a_1 : Nat), a_1 <= a.n /\ GQ (λ (i : Nat) => decide (0 < a.g i)) a.n 0 = GQ (λ (i : Nat) => decide (0 < a.g i)) (a.n - a_1) a_1 -> bif
 decide ((↑a_1 : Int) < (↑a.n : Int)) then ((0 <= (↑a_1 : Int) /\ (↑a_1 : Int) < (↑a.n : Int)) /\ (0 + a_1).succ.le a.n) /\ bif decide (0 < a.g (0 + a_1)) then GQ (λ (i : Nat) => decide (0 < a.g i)) a.n 0 = (↑a_1 : Int) /\
 a.n = a.n /\ ∀ (i : Nat), i < a.n -> a.g i = a.g i else ∃ (a_3 : Nat), (0 = 0 /\ a.n = a.n /\ (↑a.n : Int) = (↑a.n : Int) /\ (↑a_3 : Int) = IntKind.i64.wrap ((↑a_1 : Int) + 1) /\ a.n = a.n /\ ∀ (i : Nat), i < a.n -> a.g i = a.g
 i) /\ (a_3 <= a.n /\ GQ (λ (i : Nat) => decide (0 < a.g i)) a.n 0 = GQ (λ (i : Nat) => decide (0 < a.g i)) (a.n - a_3) a_3) /\ a.n - a_3 < a.n - a_1 else GQ (λ (i : Nat) => decide (0 < a.g i)) a.n 0 = -1 /\ a.n = a.n
 /\ ∀ (i : Nat), i < a.n -> a.g i = a.g i) := by kernel_rfl
theorem p95 (a : NI) (h : a.n < 4611686018427387904) : V95 a := by
 rw [vc95]
 simp only [CC, eq_self, implies_true, forall_const]
 refine ⟨⟨0, rfl, Nat.zero_le _, rfl⟩, λ k ⟨h1, h2⟩ => ⟨λ hlt => ?_, λ hge => ?_⟩⟩
 ·have hlt : k < a.n := by omega
  refine ⟨⟨by omega, by omega⟩, λ hp => ?_, λ hp => ⟨k + 1, (AN (by omega)).symm, ⟨by omega, ?_⟩, by omega⟩⟩
  ·rw [h2]; exact WM hlt (by simpa using hp)
  ·rw [h2]; exact Hn hlt (by simpa using hp)
 ·rw [h2]; exact Az (by omega)
theorem ok95 : AI Try.prog 95 (C95.spec d95) := HQ C95 A95 [] [] Try.func95 (λ _ => by kernel_rfl) (λ _ => AA ok96 AF) (λ a h => p95 a (of_decide_eq_true h)) (λ _ => IL rfl rfl) _
structure KD where
 k : Nat
 all : List Way
 deriving Inhabited
structure NQ where
 all : List Way
 p : Nat
 to : Int
 best : Far
 deriving Inhabited
def AAP : List AVal -> Heap -> Option (DM × List (Nat × Nat) × List Nat)
 | [.bptr id _, .d (.v (.int _ fr)), .d (.v (.int _ to)), .mref m, .d (.v (.int _ most))], H => match JF H id with
  | some (d, r) => some (⟨d, fr, to, (HV d any fr).m, (HV d any fr).st, most⟩, [(100, id), (101, r), (104, m)], [])
  | none => none
 | _, _ => none
def Lb (a : Desk) (all : List Way) : List (Nat × HCell) := LF (Desk.mk all a.out a.nR) ++ [(300, .live (.box [.fn (.func 93) [] []])), (301, .live (.row 1 10 λ i => CI (gD (BA (Desk.mk all a.out a.nR)) i)))]
def FE (a : Desk) (all : List Way) : Int := CZ (BA (Desk.mk all a.out a.nR))
def CP (a : Desk) (all : List Way) : RT := HV (Desk.mk all a.out a.nR) any (FE a all)
def zF : Far := ⟨0, 0, ⟨0, false⟩⟩
def By (a : Desk) (df : Desk) (gs : List Nat) : Shape := { α := NQ, dflt := default, T := λ s => ⟨[(0, .bptr 100 0), (2, .bptr 300 0), (3, .rptr 301 1 0 0), (4, .int (FE a s.all)), (5, .mref 302), (6, .int s.to), (7, .bptr 303 0), (28, .d (Rr (BA (Desk.mk s.all a.out a.nR)))), (29, .int s.p)], Lb a s.all ++ [(302, .live (Mg (CP a s.all).m (CP a s.all).st)), (303, .live (Zi s.best))]⟩, inv := λ s => s.all.length = a.all.length /\ (Desk.mk s.all a.out a.nR).ok /\ BA (Desk.mk s.all a.out a.nR) ≠ List.replicate 10 0 /\ EQ (gs.headD 0) (Desk.mk s.all a.out a.nR) = some df /\ s.p <= 10 /\ FQ (CP a s.all).m (FE a s.all) ((BA (Desk.mk s.all a.out a.nR)).drop s.p) s.p (s.to, s.best) = FQ (CP a s.all).m (FE a s.all) (BA (Desk.mk s.all a.out a.nR)) 0 (FE a s.all, zF), meas := λ s => 10 - s.p, first := [(302, 6048), (303, 7032)] }
def YC (a : Desk) (df : Desk) : Shape := { α := KD, dflt := default, T := λ s => ⟨[(0, .bptr 100 0), (2, .bptr 300 0), (3, .rptr 301 1 0 0)], Lb a s.all⟩, inv := λ s => s.all.length = a.all.length /\ (Desk.mk s.all a.out a.nR).ok /\ EQ s.k (Desk.mk s.all a.out a.nR) = some df, meas := λ s => s.k, first := [(300, 1016), (301, 2032)], again := [(301, 18000)] }
def A68 (a : Desk) (df : Desk) : Ann := { ann 86 [(94, C94.spec OM), (95, C95.spec d95), (57, s57a), (97, C97.spec AAP)] with E := [100, 101], inner := λ gs id => if id = 2 then some [YC a df] else if id = 8 then some [By a df gs] else none }
def C68 : Ctr := { α := Desk, xs := λ _ => [.bptr 100 0], L := KR, val := λ _ => uV, keep := λ d => LF ((CG d).getD default), pre := λ d => [d.ok, (CG d).isSome = true] }
def V68 (a : Desk) : Prop := BC Try.prog (A68 a ((CG a).getD default)) Try.f68 (AH Try.f68) (C68.xs a) (AE (C68.L a)) (C68.val a) (C68.keep a) [] []
theorem vc68 (a : Desk) : (V68 a) = (let qq := a
 let y0 := 0 = 0
 let y1 : List Way := AD qq.all.length λ (i : Nat) => gD qq.all i
 let y2 := y1.length
 let y3 := y2 = qq.all.length
 let y4 := (↑qq.out : Int) = (↑qq.out : Int)
 let y5 := (↑qq.nR : Int) = (↑qq.nR : Int)
 let y6 (i : Nat) : Way := gD y1 i
 let y7 (i : Nat) := (y6 i).fr
 let y8 (i : Nat) := (y6 i).to
 let y9 (i : Nat) : Span := (y6 i).sp
 let y10 (i : Nat) := (y9 i).lo
 let y11 (i : Nat) := (y9 i).hi
 let y12 (i : Nat) := (y6 i).now
 let y13 := qq.all.length = y2
 let y14 : Desk := Desk.mk y1 qq.out qq.nR
 let y15 := (Value.agg #[Value.int IntKind.i64 0, Value.int IntKind.i64 0, Value.int IntKind.i64 0, Value.int IntKind.i64 0, Value.int IntKind.i64 0, Value.int IntKind.i64 0, Value.int IntKind.i64 0, Value.int IntKind.i64 0, Value.int IntKind.i64 0, Value.int IntKind.i64 0]).cells.toList = (List.replicate 10 (Value.int IntKind.i64 0).cells.toList).flatten
 let y16 (a : KD) := a.all.length = qq.all.length
 let y17 := 10 = 10
 let y18 (a : KD) (i : Nat) := gD (BA (Desk.mk a.all qq.out qq.nR)) i
 let y19 (a : KD) := y16 a /\ (Desk.mk a.all qq.out qq.nR).ok /\ EQ a.k (Desk.mk a.all qq.out qq.nR) = some ((CG qq).getD default)
 let y20 (a : KD) := ∀ (i : Nat), i < 10 -> y18 a i = y18 a i
 let y21 (a : KD) := GQ (λ (i : Nat) => decide (0 < y18 a i)) 10 0
 let y22 (a : KD) : List Way := AD a.all.length λ (i : Nat) => gD a.all i
 let y23 (a : KD) := (y22 a).length
 let y24 (a : KD) := y23 a = a.all.length
 let y25 (a : KD) (i : Nat) : Way := gD (y22 a) i
 let y26 (a : KD) (i : Nat) := (y25 a i).fr
 let y27 (a : KD) (i : Nat) := (y25 a i).to
 let y28 (a : KD) (i : Nat) : Span := (y25 a i).sp
 let y29 (a : KD) (i : Nat) := (y28 a i).lo
 let y30 (a : KD) (i : Nat) := (y28 a i).hi
 let y31 (a : KD) (i : Nat) := (y25 a i).now
 let y32 (a : KD) := a.all.length = y23 a
 let y33 (a : KD) : Desk := Desk.mk (y22 a) qq.out qq.nR
 let y34 (a : NQ) (i : Nat) := gD (BA (Desk.mk a.all qq.out qq.nR)) i
 let y35 (a : NQ) (a2 : KD) := ∀ (i : Nat), i < 10 -> y34 a i = y18 a2 i
 let y36 (a : NQ) (a1 : KD) := a.all.length = a1.all.length
 let y37 (a : KD) : RT := HV (y33 a) RA.counts (y21 a)
 let y38 (a : KD) : Map := (y37 a).m
 let y39 (a : KD) (n : Int) : Far := (y38 a).far n
 let y40 (a : KD) (n : Int) : Step := (y39 a n).by'
 let y41 (a1 : KD) := (YC qq ((CG qq).getD default)).meas a1
 let y42 (a1 : KD) : List Nat := [y41 a1]
 let y43 (a : NQ) (a2 : KD) := a.all.length = qq.all.length /\ (Desk.mk a.all qq.out qq.nR).ok /\ BA (Desk.mk a.all qq.out qq.nR) ≠ List.replicate 10 0 /\ EQ ((y42 a2).headD 0) (Desk.mk a.all qq.out qq.nR) = some ((CG qq).getD default) /\ a.p <= 10 /\ FQ (CP qq a.all).m (FE qq a.all) (List.drop a.p (BA (Desk.mk a.all qq.out qq.nR))) a.p (a.to, a.best) = FQ (CP qq a.all).m (FE qq a.all) (BA (Desk.mk a.all qq.out qq.nR)) 0 (FE qq a.all, zF)
 let y44 (a1 : NQ) (a2 : NQ) := FE qq a1.all = FE qq a2.all
 let y45 (a : NQ) (a2 : NQ) := ∀ (i : Nat), i < 10 -> y34 a i = y34 a2 i
 let y46 (a : NQ) (a1 : NQ) := (↑a.p : Int) = IntKind.i64.wrap ((↑a1.p : Int) + 1)
 let y47 (a : NQ) (a1 : NQ) := a.all.length = a1.all.length
 let y48 (a : NQ) (a1 : NQ) := ∀ (i : Nat), i < a.all.length -> (gD a.all i).fr = (gD a1.all i).fr /\ (gD a.all i).to = (gD a1.all i).to /\ (gD a.all i).sp.lo = (gD a1.all i).sp.lo /\ (gD a.all i).sp.hi = (gD a1.all i).sp.hi /\ (gD a.all i).now = (gD a1.all i).now
 let y49 (a1 : NQ) (a2 : NQ) := ∀ (n : Int), ((CP qq a1.all).m.at n).isSome = ((CP qq a2.all).m.at n).isSome
 let y50 (a1 : NQ) (a2 : NQ) := ∀ (n : Int), (CP qq a1.all).st n = (CP qq a2.all).st n
 let y51 (a1 : NQ) (a2 : NQ) := ∀ (n : Int), ((CP qq a1.all).m.far n).cost = ((CP qq a2.all).m.far n).cost /\ ((CP qq a1.all).m.far n).many = ((CP qq a2.all).m.far n).many /\ ((CP qq a1.all).m.far n).by'.way = ((CP qq a2.all).m.far n).by'.way /\ ((CP qq a1.all).m.far n).by'.back = ((CP qq a2.all).m.far n).by'.back
 let y52 (a1 : KD) (a2 : NQ) := (By qq ((CG qq).getD default) (y42 a1)).meas a2
 let y53 (a : NQ) (a2 : KD) (a3 : NQ) := y43 a a2 /\ y52 a2 a < y52 a2 a3
 let y54 (a1 : NQ) (a2 : KD) := ∃ (a_1 : NQ), (y0 /\ y44 a_1 a1 /\ a_1.to = a1.to /\ y17 /\ y45 a_1 a1 /\ y46 a_1 a1 /\ y0 /\ y47 a_1 a1 /\ y4 /\ y5 /\ y47 a_1 a1 /\ y48 a_1 a1 /\ y17 /\ y45 a_1 a1 /\ BF = BF /\ y49 a_1 a1 /\ y50 a_1 a1 /\ y51 a_1 a1 /\ a_1.best.cost = a1.best.cost /\ a_1.best.many = a1.best.many /\ a_1.best.by'.way = a1.best.by'.way /\ a_1.best.by'.back = a1.best.by'.back) /\ y53 a_1 a2 a1
 let y55 (a1 : NQ) : Far := (CP qq a1.all).m.far (↑a1.p : Int)
 let y56 (a1 : NQ) := (y55 a1).cost
 let y57 (a1 : NQ) := (y55 a1).many
 let y58 (a1 : NQ) : Step := (y55 a1).by'
 let y59 (a : NQ) := Fl (gD (BA (Desk.mk a.all qq.out qq.nR)) (FE qq a.all).toNat) (IntKind.i64.wrap (0 - gD (BA (Desk.mk a.all qq.out qq.nR)) a.to.toNat))
 let y60 (a : NQ) : List Way := AD a.all.length λ (i : Nat) => gD a.all i
 let y61 (a : NQ) := (y60 a).length
 let y62 (a : NQ) := y61 a = a.all.length
 let y63 (a : NQ) (i : Nat) : Way := gD (y60 a) i
 let y64 (a : NQ) (i : Nat) : Span := (y63 a i).sp
 let y65 (a : NQ) : Desk := Desk.mk (y60 a) qq.out qq.nR
 let y66 (a : NQ) : RT := HV (y65 a) any (FE qq a.all)
 let y67 (a : NQ) : Map := (y66 a).m
 let y68 (a : NQ) (n : Int) := ((y67 a).at n).isSome
 let y69 (a : NQ) (n : Int) := (y66 a).st n
 let y70 (a : NQ) (n : Int) : Far := (y67 a).far n
 let y71 (a : NQ) (n : Int) := (y70 a n).cost
 let y72 (a : NQ) (n : Int) := (y70 a n).many
 let y73 (a : NQ) (n : Int) : Step := (y70 a n).by'
 let y74 (a : NQ) (n : Int) := (y73 a n).way
 let y75 (a : NQ) (n : Int) := (y73 a n).back
 let y76 (a : NQ) : DM := DM.mk (y65 a) (FE qq a.all) a.to (y67 a) (y66 a).st (y59 a)
 let y77 (a : NQ) : List Step := (y76 a).tr
 let y78 (a : NQ) : List Way := AM (y76 a).q (y60 a) (y77 a)
 let y79 (a : NQ) := (y78 a).length
 let y80 (a : NQ) (i : Nat) : Way := gD (y78 a) i
 let y81 (a : NQ) : List Way := AD a.all.length λ (i : Nat) => y80 a i
 let y82 (a : NQ) := (y81 a).length
 let y83 (a : NQ) (i : Nat) : Way := gD (y81 a) i
 let y84 (a : NQ) (i : Nat) := (y83 a i).fr
 let y85 (a : NQ) (i : Nat) := (y80 a i).fr
 let y86 (a : NQ) (i : Nat) := (y83 a i).to
 let y87 (a : NQ) (i : Nat) := (y80 a i).to
 let y88 (a : NQ) (i : Nat) : Span := (y83 a i).sp
 let y89 (a : NQ) (i : Nat) := (y88 a i).lo
 let y90 (a : NQ) (i : Nat) : Span := (y80 a i).sp
 let y91 (a : NQ) (i : Nat) := (y90 a i).lo
 let y92 (a : NQ) (i : Nat) := (y88 a i).hi
 let y93 (a : NQ) (i : Nat) := (y90 a i).hi
 let y94 (a : NQ) (i : Nat) := (y83 a i).now
 let y95 (a : NQ) (i : Nat) := (y80 a i).now
 let y96 (a : NQ) : Desk := Desk.mk (y81 a) qq.out qq.nR
 let y97 := ((CG qq).getD default).all.length
 let y98 (a1 : KD) := y97 = a1.all.length
 let y99 (i : Nat) : Way := gD ((CG qq).getD default).all i
 let y100 (i : Nat) : Span := (y99 i).sp
 ((y0 /\ y3 /\ y4 /\ y5 /\ y3 /\ (∀ (i : Nat), i < y2 -> y7 i = (gD a.all i).fr /\ y8 i = (gD a.all i).to /\ y10 i = (gD a.all i).sp.lo /\ y11 i =
 (gD a.all i).sp.hi /\ y12 i = (gD a.all i).now) /\ y0 /\ y13 /\ y4 /\ y5 /\ y13 /\ (∀ (i : Nat), i < a.all.length -> (gD a.all i).fr = y7 i /\ (gD a.all i).to = y8 i /\ (gD a.all i).sp.lo =
 y10 i /\ (gD a.all i).sp.hi = y11 i /\ (gD a.all i).now = y12 i) /\ y14.ok /\ y15) /\ (∃ (a_1 : KD), (y0 /\ y0 /\ y16 a_1 /\ y4 /\ y5 /\ y16 a_1 /\ (∀ (i : Nat), i < a_1.all.length
 -> (gD a_1.all i).fr = (gD a.all i).fr /\ (gD a_1.all i).to = (gD a.all i).to /\ (gD a_1.all i).sp.lo = (gD a.all i).sp.lo /\ (gD a_1.all i).sp.hi = (gD a.all i).sp.hi /\ (gD a_1.all i).now = (gD a.all i).now) /\ y17 /\ ∀ (i
 : Nat), i < 10 -> y18 a_1 i = gD (BA y14) i) /\ y19 a_1) /\ ∀ (a_1 : KD), y19 a_1 -> y15 /\ bif !(gD (BA (Desk.mk a_1.all a.out a.nR)) 0 == 0 && (gD (BA (Desk.mk a_1.all a.out a.nR)) 1 == 0
 && (gD (BA (Desk.mk a_1.all a.out a.nR)) 2 == 0 && (gD (BA (Desk.mk a_1.all a.out a.nR)) 3 == 0 && (gD (BA (Desk.mk a_1.all a.out a.nR)) 4 == 0 && (gD (BA (Desk.mk a_1.all a.out a.nR)) 5 == 0 && (gD (BA
 (Desk.mk a_1.all a.out a.nR)) 6 == 0 && (gD (BA (Desk.mk a_1.all a.out a.nR)) 7 == 0 && (gD (BA (Desk.mk a_1.all a.out a.nR)) 8 == 0 && (gD (BA (Desk.mk a_1.all a.out a.nR)) 9 == 0 && true)))))))))) then (y0
 /\ y17 /\ y17 /\ y20 a_1 /\ y17 /\ y20 a_1 /\ true = true) /\ (y21 a_1 = y21 a_1 /\ y0 /\ y24 a_1 /\ y4 /\ y5 /\ y24 a_1 /\ (∀ (i : Nat), i < y23 a_1 -> y26 a_1 i = (gD a_1.all
 i).fr /\ y27 a_1 i = (gD a_1.all i).to /\ y29 a_1 i = (gD a_1.all i).sp.lo /\ y30 a_1 i = (gD a_1.all i).sp.hi /\ y31 a_1 i = (gD a_1.all i).now) /\ y0 /\ y32 a_1 /\ y4 /\ y5 /\ y32 a_1 /\ (∀ (i :
 Nat), i < a_1.all.length -> (gD a_1.all i).fr = y26 a_1 i /\ (gD a_1.all i).to = y27 a_1 i /\ (gD a_1.all i).sp.lo = y29 a_1 i /\ (gD a_1.all i).sp.hi = y30 a_1 i /\ (gD a_1.all i).now = y31 a_1 i) /\ (y33 a_1).ok /\ (0 <= y21 a_1 /\ y21 a_1 < (↑a.out : Int) + 2) /\ (EP (y33 a_1) RA.counts (y21 a_1)).isSome = true) /\ (∃ (a_3 : NQ), (y0 /\ FE a a_3.all = y21 a_1 /\ a_3.to = y21 a_1 /\
 y17 /\ y35 a_3 a_1 /\ (↑a_3.p : Int) = 0 /\ y0 /\ y36 a_3 a_1 /\ y4 /\ y5 /\ y36 a_3 a_1 /\ (∀ (i : Nat), i < a_3.all.length -> (gD a_3.all i).fr = (gD a_1.all i).fr /\ (gD a_3.all i).to = (gD a_1.all
 i).to /\ (gD a_3.all i).sp.lo = (gD a_1.all i).sp.lo /\ (gD a_3.all i).sp.hi = (gD a_1.all i).sp.hi /\ (gD a_3.all i).now = (gD a_1.all i).now) /\ y17 /\ y35 a_3 a_1 /\ BF = BF /\ (∀ (n : Int), ((CP a
 a_3.all).m.at n).isSome = ((y38 a_1).at n).isSome) /\ (∀ (n : Int), (CP a a_3.all).st n = (y37 a_1).st n) /\ (∀ (n : Int), ((CP a a_3.all).m.far n).cost = (y39 a_1 n).cost /\ ((CP a a_3.all).m.far
 n).many = (y39 a_1 n).many /\ ((CP a a_3.all).m.far n).by'.way = (y40 a_1 n).way /\ ((CP a a_3.all).m.far n).by'.back = (y40 a_1 n).back) /\ a_3.best.cost = 0 /\ a_3.best.many = 0 /\ a_3.best.by'.way = 0
 /\ a_3.best.by'.back = false) /\ y43 a_3 a_1) /\ ∀ (a_3 : NQ), y43 a_3 a_1 -> bif decide ((↑a_3.p : Int) < 10) then (0 <= (↑a_3.p : Int) /\ (↑a_3.p : Int) < (↑10 : Int)) /\ Value.agg #[Value.int IntKind.i64 0,
 Value.int IntKind.i64 0, Value.int IntKind.i64 0, Value.bool false] = BF /\ bif bif decide (gD (BA (Desk.mk a_3.all a.out a.nR)) a_3.p >= 0) then true else !((CP a a_3.all).m.at (↑a_3.p : Int)).isSome then y54 a_3 a_1 else bif bif bif a_3.to == FE a a_3.all then true else decide (y56 a_3 < a_3.best.cost) then true else bif y56 a_3 == a_3.best.cost then decide (y57 a_3 < a_3.best.many) else false then ∃ (a_5
 : NQ), (y0 /\ y44 a_5 a_3 /\ a_5.to = (↑a_3.p : Int) /\ y17 /\ y45 a_5 a_3 /\ y46 a_5 a_3 /\ y0 /\ y47 a_5 a_3 /\ y4 /\ y5 /\ y47 a_5 a_3 /\ y48 a_5 a_3 /\ y17 /\ y45 a_5 a_3 /\ BF =
 BF /\ y49 a_5 a_3 /\ y50 a_5 a_3 /\ y51 a_5 a_3 /\ a_5.best.cost = y56 a_3 /\ a_5.best.many = y57 a_3 /\ a_5.best.by'.way = (y58 a_3).way /\ a_5.best.by'.back = (y58 a_3).back) /\ y53 a_5 a_1 a_3 else y54 a_3 a_1 else ((0 <= FE a a_3.all /\ FE a a_3.all < (↑10 : Int)) /\ (FE a a_3.all).toNat < 10 /\ (0 <= a_3.to /\ a_3.to < (↑10 : Int)) /\ a_3.to.toNat < 10 /\ FE a a_3.all = FE a
 a_3.all /\ a_3.to = a_3.to /\ y59 a_3 = y59 a_3 /\ y0 /\ y62 a_3 /\ y4 /\ y5 /\ y62 a_3 /\ (∀ (i : Nat), i < y61 a_3 -> (y63 a_3 i).fr = (gD a_3.all i).fr /\ (y63 a_3 i).to = (gD a_3.all i).to
 /\ (y64 a_3 i).lo = (gD a_3.all i).sp.lo /\ (y64 a_3 i).hi = (gD a_3.all i).sp.hi /\ (y63 a_3 i).now = (gD a_3.all i).now) /\ BF = BF /\ (∀ (n : Int), y68 a_3 n = ((CP a a_3.all).m.at n).isSome) /\ (∀ (n :
 Int), y69 a_3 n = (CP a a_3.all).st n) /\ (∀ (n : Int), y71 a_3 n = ((CP a a_3.all).m.far n).cost /\ y72 a_3 n = ((CP a a_3.all).m.far n).many /\ y74 a_3 n = ((CP a a_3.all).m.far n).by'.way
 /\ y75 a_3 n = ((CP a a_3.all).m.far n).by'.back) /\ y0 /\ a_3.all.length = y79 a_3 /\ y4 /\ y5 /\ BF = BF /\ (∀ (n : Int), ((CP a a_3.all).m.at n).isSome = y68 a_3 n) /\ (∀ (n : Int),
 (CP a a_3.all).st n = y69 a_3 n) /\ (∀ (n : Int), ((CP a a_3.all).m.far n).cost = y71 a_3 n /\ ((CP a a_3.all).m.far n).many = y72 a_3 n /\ ((CP a a_3.all).m.far n).by'.way = y74 a_3 n /\
 ((CP a a_3.all).m.far n).by'.back = y75 a_3 n) /\ (y65 a_3).ok /\ (FG (y65 a_3) (y67 a_3) (FE a a_3.all) fuel a_3.to).isSome = true /\ (∀ (s : Step), List.Mem s (y77 a_3) -> 0 <= s.way /\
 s.way < (↑(y61 a_3) : Int)) /\ (y77 a_3).length.le 1000) /\ y15 /\ (y0 /\ y82 a_3 = a_3.all.length /\ y4 /\ y5 /\ y82 a_3 = y79 a_3 /\ (∀ (i : Nat), i < y82 a_3 -> y84 a_3 i =
 y85 a_3 i /\ y86 a_3 i = y87 a_3 i /\ y89 a_3 i = y91 a_3 i /\ y92 a_3 i = y93 a_3 i /\ y94 a_3 i = y95 a_3 i) /\ y0 /\ a_3.all.length = y82 a_3 /\ y4 /\ y5 /\ y79 a_3 = y82 a_3 /\ (∀ (i : Nat), i < y79 a_3 -> y85 a_3 i = y84 a_3 i /\ y87 a_3 i = y86 a_3 i /\ y91 a_3 i = y89 a_3 i /\ y93 a_3 i = y92 a_3 i /\ y95 a_3 i = y94 a_3 i) /\ (y96 a_3).ok) /\ ∃ (a_5 : KD), (y0 /\ y0 /\ a_5.all.length = a_3.all.length /\ y4 /\ y5 /\ a_5.all.length = y79 a_3 /\ (∀ (i : Nat), i < a_5.all.length -> (gD a_5.all i).fr = y85 a_3 i /\ (gD
 a_5.all i).to = y87 a_3 i /\ (gD a_5.all i).sp.lo = y91 a_3 i /\ (gD a_5.all i).sp.hi = y93 a_3 i /\ (gD a_5.all i).now = y95 a_3 i) /\ y17 /\ ∀ (i : Nat), i < 10 -> y18 a_5 i = gD (BA (y96 a_3)) i) /\ y19 a_5 /\ y41 a_5 < y41 a_1 else y0 /\ y98 a_1 /\ (↑((CG a).getD default).out : Int) = (↑a.out : Int) /\ (↑((CG a).getD default).nR : Int) = (↑a.nR : Int) /\ y98 a_1 /\ ∀ (i
 : Nat), i < y97 -> (y99 i).fr = (gD a_1.all i).fr /\ (y99 i).to = (gD a_1.all i).to /\ (y100 i).lo = (gD a_1.all i).sp.lo /\ (y100 i).hi = (gD a_1.all i).sp.hi /\ (y99 i).now = (gD a_1.all
 i).now)) := by kernel_rfl
theorem Yy (d : Desk) : GQ (λ (i : Nat) => decide (0 < gD (BA d) i)) 10 0 = CZ (BA d) := rfl
theorem WQ : ∀ (r : List Way) (l : List Int), (SD l r).length = l.length
 | [], _ => rfl
 | w :: r, l => by simp only [SD]; rw [WQ r]; simp
theorem GB (d : Desk) : (BA d).length = 10 := by unfold BA; rw [WQ]; simp
theorem Fs {l : List Int} (h : l.length = 10) : (gD l 0 == 0 && (gD l 1 == 0 && (gD l 2 == 0 && (gD l 3 == 0 && (gD l 4 == 0 && (gD l 5 == 0 && (gD l 6 == 0 && (gD l 7 == 0 && (gD l 8 == 0 && (gD l 9 == 0 && true)))))))))) = true ↔ l = List.replicate 10 0 := by
 match l, h with
 | [a, b, c, d, e, f, g, h, i, j], _ => simp [gD, List.replicate]
theorem Lc (q : Int) (l : List Step) (all : List Way) : AD all.length (λ i => gD (AM q all l) i) = AM q all l := by
 conv => lhs; rw [<- BQ q l all]
 exact OI _
theorem Ni (q : Int) (all : List Way) (s : Step) (i : Nat) : (gD (DZ q all s) i).fr = (gD all i).fr /\ (gD (DZ q all s) i).to = (gD all i).to /\ (gD (DZ q all s) i).sp = (gD all i).sp := by
 unfold DZ
 by_cases h : s.way.toNat < all.length
 ·rw [BB h]; split
  ·rename_i he; subst he; exact ⟨rfl, rfl, rfl⟩
  ·exact ⟨rfl, rfl, rfl⟩
 ·have : all.modify s.way.toNat (λ w => { w with now := if s.back then wr (w.now - q) else wr (w.now + q) }) = all := by
   apply List.ext_getElem?; intro j; rw [List.getElem?_modify]
   by_cases hj : s.way.toNat = j
   ·subst hj; rw [List.getElem?_eq_none (by omega)]; rfl
   ·simp [hj]
  rw [this]; exact ⟨rfl, rfl, rfl⟩
theorem PT (q : Int) : ∀ (l : List Step) (all : List Way) (i : Nat), (gD (AM q all l) i).fr = (gD all i).fr /\ (gD (AM q all l) i).to = (gD all i).to /\ (gD (AM q all l) i).sp = (gD all i).sp
 | [], _, _ => ⟨rfl, rfl, rfl⟩
 | s :: l, all, i => by
  obtain ⟨h1, h2, h3⟩ := PT q l (DZ q all s) i
  obtain ⟨h4, h5, h6⟩ := Ni q all s i
  simp only [AM]
  exact ⟨h1.trans h4, h2.trans h5, h3.trans h6⟩
theorem Iy {d : Desk} (h : d.ok) (q : Int) (l : List Step) : (Desk.mk (AM q d.all l) d.out d.nR).ok := by
 refine ⟨h.out, ?_, ?_, λ i hi => ?_⟩
 ·show (AM q d.all l).length <= 23; rw [BQ]; exact h.len
 ·show _ <= (AM q d.all l).length; rw [BQ]; exact h.cut
 ·have hi : i < (AM q d.all l).length := hi
  rw [BQ] at hi
  obtain ⟨h1, h2, _⟩ := PT q l d.all i
  show (0 <= (gD (AM q d.all l) i).fr /\ _) /\ _
  rw [h1, h2]
  exact h.ends i hi
theorem Dt (m : Map) (fr : Int) (hf : 0 <= fr /\ fr < 10) : ∀ (l : List Int) (p : Nat) (st : Int × Far), p + l.length <= 10 -> (0 <= st.1 /\ st.1 < 10) -> 0 <= (FQ m fr l p st).1 /\ (FQ m fr l p st).1 < 10
 | [], _, _, _, h => h
 | x :: l, p, st, hp, h => by
  simp only [List.length_cons] at hp
  simp only [FQ]
  refine Dt m fr hf l (p + 1) _ (by omega) ?_
  cases m.at p with
  | none => exact h
  | some f =>
   simp only
   split
   ·exact h
   ·split
    ·exact ⟨by simp, by simp; omega⟩
    ·exact h
def OS (d : Desk) (to : Int) : DM := DM.mk d (CZ (BA d)) to (HV d any (CZ (BA d))).m (HV d any (CZ (BA d))).st (min (gD (BA d) (CZ (BA d)).toNat) (wr (-gD (BA d) to.toNat)))
theorem ZV {d df : Desk} {k : Nat} (hne : BA d ≠ List.replicate 10 0) (h : EQ k d = some df) : ∃ k', k = k' + 1 /\ (0 <= CZ (BA d) /\ CZ (BA d) < d.out + 2) /\ (EP d any (CZ (BA d))).isSome = true /\
  ∀ to, to = (FQ (HV d any (CZ (BA d))).m (CZ (BA d)) (BA d) 0 (CZ (BA d), zF)).1 -> (FG d (OS d to).m (CZ (BA d)) fuel to).isSome = true /\ (∀ s ∈ (OS d to).tr, 0 <= s.way /\ s.way < d.all.length) /\ (OS d to).tr.length <= 1000 /\ EQ k' (Desk.mk (AM (OS d to).q d.all (OS d to).tr) d.out d.nR) = some df := by
 cases k with
 | zero => cases h
 | succ k =>
  simp only [EQ, if_neg hne] at h
  split at h
  ·cases h
  rename_i d1 hd1
  unfold GZ at hd1
  simp only at hd1
  split at hd1
  ·cases hd1
  rename_i hfr
  split at hd1
  ·cases hd1
  rename_i r hr
  have hrf : HV d any (CZ (BA d)) = r := by simp [HV, hr]
  refine ⟨k, rfl, by omega, by rw [hr]; rfl, λ to hto => ?_⟩
  rw [hrf] at hto
  have hz : zF = ⟨0, 0, ⟨0, false⟩⟩ := rfl
  rw [hz] at hto
  rw [<- hto] at hd1
  unfold LJ at hd1
  split at hd1
  ·cases hd1
  rename_i d2 q2 h2
  split at h2
  ·cases h2
  rename_i l hl
  split at h2
  ·rename_i hg
   have hX : (OS d to).m = r.m := by simp only [OS, hrf]
   have htr : (OS d to).tr = l := by
    unfold DM.tr
    rw [hX]
    show (FG d r.m (CZ (BA d)) fuel to).getD [] = l
    rw [hl]; rfl
   have hqq : (OS d to).q = DR d (min (gD (BA d) (CZ (BA d)).toNat) (wr (-gD (BA d) to.toNat))) l := by
    unfold DM.q; rw [htr]; rfl
   simp only [Bool.and_eq_true, List.all_eq_true, decide_eq_true_eq] at hg
   rw [hX, htr, hqq, hl]
   cases h2; cases hd1
   exact ⟨rfl, hg.1, hg.2, h⟩
  ·cases h2
theorem Gf (to fr : Int) (f best : Far) : (bif bif to == fr then true else decide (f.cost < best.cost) then true else bif f.cost == best.cost then decide (f.many < best.many) else false) = (decide (to = fr) || better f best) := by
 unfold better
 by_cases h1 : to = fr <;> by_cases h2 : f.cost < best.cost <;> by_cases h3 : f.cost = best.cost <;> simp [h1, h2, h3]
theorem XW {l : List Int} (h : l.length = 10) (m : Map) (fr : Int) {p : Nat} (hp : p < 10) (to : Int) (best : Far) : FQ m fr (l.drop p) p (to, best) = FQ m fr (l.drop (p + 1)) (p + 1) (if (bif decide (gD l p >= 0) then true else !(m.at p).isSome) then (to, best) else if decide (to = fr) || better (m.far p) best then ((p : Int), m.far p) else (to, best)) := by
 rw [ED (by omega)]
 simp only [FQ]
 congr 1
 cases hq : m.at p with
 | none => by_cases h0 : 0 <= gD l p <;> simp [h0]
 | some f =>
  have hf : m.far p = f := by simp [Map.far, hq]
  by_cases h0 : 0 <= gD l p <;> simp [h0, hf]
theorem Bt (a df : Desk) (s : KD) : (YC a df).meas s = s.k := rfl
theorem Fc (a df : Desk) (gs : List Nat) (s : NQ) : (By a df gs).meas s = 10 - s.p := rfl
theorem p68 (a : Desk) (hd : a.ok) (hr : (CG a).isSome = true) : V68 a := by
 have hrf : EQ fuel a = some ((CG a).getD default) := by
  obtain ⟨r, h⟩ := Option.isSome_iff_exists.1 hr
  rw [h]; exact h
 have hRA : RA.counts = any := rfl
 rw [vc68]; (conv => zeta)
 simp only [CC, eq_self, implies_true, forall_const, Bt, Fc, List.headD_cons, Yy, FE, CP, hRA, WH, BQ, Lc]
 generalize (CG a).getD default = df at *
 have hz : (Value.agg #[Value.int IntKind.i64 0, Value.int IntKind.i64 0, Value.int IntKind.i64 0, Value.int IntKind.i64 0, Value.int IntKind.i64 0, Value.int IntKind.i64 0, Value.int IntKind.i64 0, Value.int IntKind.i64 0, Value.int IntKind.i64 0, Value.int IntKind.i64 0]).cells.toList = (List.replicate 10 (Value.int IntKind.i64 0).cells.toList).flatten := rfl
 refine ⟨⟨hd, hz⟩, ⟨⟨fuel, a.all⟩, ⟨rfl, rfl, λ _ _ => ⟨rfl, rfl, rfl, rfl, rfl⟩, λ _ _ => rfl⟩, rfl, hd, hrf⟩, λ a1 ⟨h1, h2, h3⟩ => ⟨hz, λ hne => ?_, λ heq => ?_⟩⟩
 ·have hne : BA (Desk.mk a1.all a.out a.nR) ≠ List.replicate 10 0 := λ he => by
   rw [(Fs (GB _)).2 he] at hne; cases hne
  obtain ⟨k', hk, hfr, hrv, hnx⟩ := ZV hne h3
  refine ⟨⟨h2, hfr, hrv⟩, ⟨⟨a1.all, 0, _, zF⟩, ⟨rfl, rfl, λ _ _ => rfl, rfl, rfl, rfl, λ _ _ => ⟨rfl, rfl, rfl, rfl, rfl⟩, λ _ _ => rfl, λ _ => rfl, λ _ => rfl, λ _ => ⟨rfl, rfl, rfl, rfl⟩, rfl, rfl, rfl, rfl⟩, h1, h2, hne, h3, by simp, rfl⟩, λ a4 ⟨g1, g2, g3, g4, g5, g6⟩ => ⟨λ hlt => ⟨⟨by omega, hlt⟩, rfl, λ hc => ?_, λ hc => ⟨λ hb => ?_, λ hb => ?_⟩⟩, λ hge => ?_⟩⟩
  ·have hlt : a4.p < 10 := by omega
   rw [XW (GB _) _ _ hlt, hc] at g6
   exact ⟨⟨a4.all, a4.p + 1, a4.to, a4.best⟩, ⟨rfl, rfl, λ _ _ => rfl, (AN (by omega)).symm, rfl, rfl, λ _ _ => ⟨rfl, rfl, rfl, rfl, rfl⟩, λ _ _ => rfl, λ _ => rfl, λ _ => rfl, λ _ => ⟨rfl, rfl, rfl, rfl⟩, rfl, rfl, rfl, rfl⟩, ⟨g1, g2, g3, g4, hlt, g6⟩, by show _ - (a4.p + 1) < _; omega⟩
  ·have hlt : a4.p < 10 := by omega
   have hb := (Gf _ _ _ _).symm.trans hb
   rw [XW (GB _) _ _ hlt, hc, hb] at g6
   exact ⟨⟨a4.all, a4.p + 1, a4.p, _⟩, ⟨rfl, rfl, λ _ _ => rfl, (AN (by omega)).symm, rfl, rfl, λ _ _ => ⟨rfl, rfl, rfl, rfl, rfl⟩, λ _ _ => rfl, λ _ => rfl, λ _ => rfl, λ _ => ⟨rfl, rfl, rfl, rfl⟩, rfl, rfl, rfl, rfl⟩, ⟨g1, g2, g3, g4, hlt, g6⟩, by show _ - (a4.p + 1) < _; omega⟩
  ·have hlt : a4.p < 10 := by omega
   have hb := (Gf _ _ _ _).symm.trans hb
   rw [XW (GB _) _ _ hlt, hc, hb] at g6
   exact ⟨⟨a4.all, a4.p + 1, a4.to, a4.best⟩, ⟨rfl, rfl, λ _ _ => rfl, (AN (by omega)).symm, rfl, rfl, λ _ _ => ⟨rfl, rfl, rfl, rfl, rfl⟩, λ _ _ => rfl, λ _ => rfl, λ _ => rfl, λ _ => ⟨rfl, rfl, rfl, rfl⟩, rfl, rfl, rfl, rfl⟩, ⟨g1, g2, g3, g4, hlt, g6⟩, by show _ - (a4.p + 1) < _; omega⟩
  ·have hp : a4.p = 10 := by omega
   rw [hp, List.drop_eq_nil_of_le (by rw [GB]; omega)] at g6
   have g6 : (a4.to, a4.best) = _ := g6
   obtain ⟨k2, hk2, hfr2, _, hnx2⟩ := ZV g3 g4
   have ho := h2.out
   have hfr3 : 0 <= CZ (BA (Desk.mk a4.all a.out a.nR)) /\ CZ (BA (Desk.mk a4.all a.out a.nR)) < 10 := ⟨hfr2.1, by have := hfr2.2; simp only at this ho; omega⟩
   have hto : a4.to = _ := congrArg Prod.fst g6
   have hto2 : 0 <= a4.to /\ a4.to < 10 := by rw [hto]; exact Dt _ _ hfr3 _ _ _ (by rw [GB]; omega) hfr3
   obtain ⟨t1, t2, t3, t4⟩ := hnx2 _ hto
   have hokp := Iy g2 (OS (Desk.mk a4.all a.out a.nR) a4.to).q (OS (Desk.mk a4.all a.out a.nR) a4.to).tr
   exact ⟨⟨hfr3, by omega, hto2, by omega, g2, t1, t2, t3⟩, hz, hokp, ⟨k2, AM (OS (Desk.mk a4.all a.out a.nR) a4.to).q a4.all (OS (Desk.mk a4.all a.out a.nR) a4.to).tr⟩, ⟨BQ _ _ _, BQ _ _ _, λ _ _ => ⟨rfl, rfl, rfl, rfl, rfl⟩, λ _ _ => rfl⟩, ⟨(BQ _ _ _).trans g1, hokp, t4⟩, by show k2 < a1.k; omega⟩
 ·have he : BA (Desk.mk a1.all a.out a.nR) = List.replicate 10 0 := (Fs (GB _)).1 heq
  cases hk : a1.k with
  | zero => rw [hk] at h3; cases h3
  | succ k =>
   rw [hk] at h3
   simp only [EQ, if_pos he] at h3
   cases h3
   exact ⟨rfl, rfl, rfl, rfl, λ _ _ => ⟨rfl, rfl, rfl, rfl, rfl⟩⟩
theorem ok68 : AI Try.prog 68 (C68.spec OM) := HQ C68 (λ a => A68 a ((CG a).getD default)) [] [] Try.func68 (λ _ => by kernel_rfl) (λ _ => AA ok94 (AA ok95 (AA ABQ (AA (ok97 _) AF)))) (λ a h => p68 a h.1 h.2) (λ _ => IL rfl rfl) _
end Go.Bal
