/- Package balance: moved. -/
import Derived.Test.YtonddbmhljelgaaBalE
import Derived.Test.YtonddbmhljelgaaBalT2
set_option linter.unusedVariables false
set_option linter.unusedSimpArgs false
namespace Go.Bal
open Go Go.Sym Go.Proofs
structure DM where
 d : Desk
 fr : Int
 to : Int
 m : Map
 st : Int -> Int
 most : Int
structure One where
 one : Nat
 deriving Inhabited
structure TS where
 l : List Step
 v : Int
 deriving Inhabited
structure KI where
 k : Nat
 q : Int
 deriving Inhabited
structure KW where
 k : Nat
 all : List Way
 deriving Inhabited
def HX : DVal := .list 0 0 (λ _ => default) true
def Ix (l : List Step) : DVal := Pw 2 l.length λ i => OR (gD l i)
def DM.tr (a : DM) : List Step := (EK a.d a.m a.fr fuel a.to).getD []
def DM.q (a : DM) : Int := CY a.d a.most a.tr
def Qg (a : DM) (q : Int) : List (Nat × HCell) := [(300, .live (.box [.bptr 100 0])), (301, .live (.box [.int q]))]
def Tl (a : DM) : List (Nat × AObj) := JH a.d ++ [(104, Hf a.m a.st)]
def A97 (a : DM) : Ann := { ann 68 [(87, C87.spec Qr), (85, C85.spec Qr), (108, C108.spec Xq)] with E := [100, 101, 104], mt := λ id => id == 5, loops := λ id => if id = 3 then some [{ α := One, dflt := default, T := λ _ => ⟨[(1, .int a.fr), (3, .mref 104), (5, .bptr 300 0), (9, .bptr 301 0), (11, .d HX), (12, .int a.to)], LS (Tl a) ++ Qg a a.most⟩, inv := λ _ => True, meas := λ _ => a.tr.length, first := [(300, 1000), (301, 1016)] }, { α := TS, dflt := default, T := λ s => ⟨[(1, .int a.fr), (3, .mref 104), (5, .bptr 300 0), (9, .bptr 301 0), (11, .own 210 2 0 s.l.length), (12, .int s.v)], LS (Tl a) ++ Qg a a.most ++ [(210, .live (.row 2 s.l.length λ i => OR (gD s.l i)))]⟩, inv := λ s => s.l.length <= a.tr.length /\ a.tr = s.l ++ a.tr.drop s.l.length /\ ∃ k, k + s.l.length = fuel /\ EK a.d a.m a.fr k s.v = some (a.tr.drop s.l.length), meas := λ s => a.tr.length - s.l.length, again := [(210, 6048)] }] else if id = 9 then some [{ α := KI, dflt := default, T := λ s => ⟨[(5, .bptr 300 0), (9, .bptr 301 0), (11, .d (Ix a.tr)), (40, .d (Ix a.tr)), (41, .int a.tr.length), (42, .int s.k)], LS (Tl a) ++ Qg a s.q⟩, inv := λ s => s.k <= a.tr.length /\ CY a.d s.q (a.tr.drop s.k) = a.q, meas := λ s => a.tr.length - s.k, ffz := [210] }] else if id = 16 then some [{ α := KW, dflt := default, T := λ s => ⟨[(9, .bptr 301 0), (18, .fn (.func 108) [] [.bptr 300 0, .bptr 301 0]), (57, .d (Ix a.tr)), (58, .int a.tr.length), (59, .int s.k)], LS (JH (Desk.mk (s.all) a.d.out a.d.nR) ++ [(104, Hf a.m a.st)]) ++ Qg a a.q⟩, inv := λ s => s.k <= a.tr.length /\ s.all.length = a.d.all.length /\ AI a.q s.all (a.tr.drop s.k) = AI a.q a.d.all a.tr, meas := λ s => a.tr.length - s.k }] else none }
def C97 : Ctr := { ro := [100, 104], α := DM, xs := λ a => [.bptr 100 0, .int a.fr, .int a.to, .mref 104, .int a.most], L := λ a => JH a.d ++ [(104, Hf a.m a.st)], val := λ a => .int a.q, keep := λ a => JM (Desk.mk (AI a.q a.d.all a.tr) a.d.out a.d.nR) ++ [(104, .live (Hf a.m a.st))], pre := λ a => [a.d.ok, (EK a.d a.m a.fr fuel a.to).isSome = true, ∀ s ∈ a.tr, 0 <= s.way /\ s.way < a.d.all.length, a.tr.length <= 1000] }
def V97 (a : DM) : Prop := BM Try.prog (A97 a) Try.f97 (AJ Try.f97) (C97.xs a) (AE (C97.L a)) (C97.val a) (C97.keep a) [] []
theorem Zf (a : DM) : (V97 a) = (let qq := a
 let y0 := 0 = 0
 let y1 := qq.d.all.length = qq.d.all.length
 let y2 := (↑qq.d.out : Int) = (↑qq.d.out : Int)
 let y3 := (↑qq.d.nR : Int) = (↑qq.d.nR : Int)
 let y4 := ∀ (i : Nat), i < qq.d.all.length -> (gD qq.d.all i).fr = (gD qq.d.all i).fr /\ (gD qq.d.all i).to = (gD qq.d.all i).to /\ (gD qq.d.all i).sp.lo = (gD qq.d.all i).sp.lo /\ (gD qq.d.all i).sp.hi = (gD qq.d.all i).sp.hi /\ (gD qq.d.all i).now = (gD qq.d.all i).now
 let y5 := ∀ (n : Int), (qq.m.at n).isSome = (qq.m.at n).isSome
 let y6 := ∀ (n : Int), qq.st n = qq.st n
 let y7 := ∀ (n : Int), (qq.m.far n).cost = (qq.m.far n).cost /\ (qq.m.far n).many = (qq.m.far n).many /\ (qq.m.far n).by'.way = (qq.m.far n).by'.way /\ (qq.m.far n).by'.back = (qq.m.far n).by'.back
 let y8 := Value.agg #[Value.int IntKind.i64 0, Value.int IntKind.i64 0, Value.int IntKind.i64 0, Value.bool false] = BA
 let y9 := 0 < 1
 let y10 := 2 = 2
 let y11 := 1 <= 1 /\ (y9 -> y10)
 let y12 : List Way := AC qq.d.all.length λ (i : Nat) => gD qq.d.all i
 let y13 := y12.length
 let y14 := y13 = qq.d.all.length
 let y15 (i : Nat) : Way := gD y12 i
 let y16 (i : Nat) := (y15 i).fr
 let y17 (i : Nat) := (y15 i).to
 let y18 (i : Nat) : Span := (y15 i).sp
 let y19 (i : Nat) := (y18 i).lo
 let y20 (i : Nat) := (y18 i).hi
 let y21 (i : Nat) := (y15 i).now
 let y22 := ∀ (i : Nat), i < y13 -> y16 i = (gD qq.d.all i).fr /\ y17 i = (gD qq.d.all i).to /\ y19 i = (gD qq.d.all i).sp.lo /\ y20 i = (gD qq.d.all i).sp.hi /\ y21 i = (gD qq.d.all i).now
 let y23 := qq.d.all.length = y13
 let y24 := ∀ (i : Nat), i < qq.d.all.length -> (gD qq.d.all i).fr = y16 i /\ (gD qq.d.all i).to = y17 i /\ (gD qq.d.all i).sp.lo = y19 i /\ (gD qq.d.all i).sp.hi = y20 i /\ (gD qq.d.all i).now = y21 i
 let y25 (a : TS) := a.l.length = 1
 let y26 : Desk := Desk.mk y12 qq.d.out qq.d.nR
 let y27 (a : TS) := a.l.length <= qq.tr.length /\ qq.tr = a.l ++ List.drop a.l.length qq.tr /\ ∃ (k : Nat), k + a.l.length = 1000000000000000000 /\ EK qq.d qq.m qq.fr k a.v = some (List.drop a.l.length qq.tr)
 let y28 (a1 : TS) := qq.tr.length - a1.l.length
 let y29 := qq.tr.length = 0
 let y30 (a : KI) := (↑a.k : Int) = 0 /\ y0 /\ y1 /\ y2 /\ y3 /\ y1 /\ y4 /\ BA = BA /\ y5 /\ y6 /\ y7 /\ a.q = qq.most
 let y31 (a : KI) := a.k <= qq.tr.length /\ CY qq.d a.q (List.drop a.k qq.tr) = qq.q
 let y32 (a : KI) := (↑a.k : Int) < (↑qq.tr.length : Int)
 let y33 := qq.tr.length = qq.tr.length
 let y34 := ∀ (i : Nat), i < qq.tr.length -> (gD qq.tr i).way = (gD qq.tr i).way /\ (gD qq.tr i).back = (gD qq.tr i).back
 let y35 := (↑qq.tr.length : Int) = (↑qq.tr.length : Int)
 let y36 (a1 : KI) := qq.tr.length - a1.k
 let y37 (a : KW) := a.all.length = qq.d.all.length
 let y38 (a : KW) := a.k <= qq.tr.length /\ y37 a /\ AI qq.q a.all (List.drop a.k qq.tr) = AI qq.q qq.d.all qq.tr
 let y39 (a : KW) := (↑a.k : Int) < (↑qq.tr.length : Int)
 let y40 (a : KW) : List Way := AC a.all.length λ (i : Nat) => gD a.all i
 let y41 (a : KW) := (y40 a).length
 let y42 (a : KW) := y41 a = a.all.length
 let y43 (a : KW) (i : Nat) : Way := gD (y40 a) i
 let y44 (a : KW) (i : Nat) : Span := (y43 a i).sp
 let y45 (a1 : KW) : List Way := DH qq.q (y40 a1) (gD qq.tr a1.k)
 let y46 (a1 : KW) := (y45 a1).length
 let y47 (a1 : KW) (i : Nat) : Way := gD (y45 a1) i
 let y48 (a1 : KW) (i : Nat) : Span := (y47 a1 i).sp
 let y49 (a1 : KW) := qq.tr.length - a1.k
 let y50 := (AI qq.q qq.d.all qq.tr).length
 let y51 (a1 : KW) := y50 = a1.all.length
 let y52 (i : Nat) : Way := gD (AI qq.q qq.d.all qq.tr) i
 let y53 (i : Nat) : Span := (y52 i).sp
 let y54 := ∀ (a_1 : KI), y31 a_1 -> bif decide (y32 a_1) then (0 <= (↑a_1.k : Int) /\ y32 a_1) /\ ((gD qq.tr a_1.k).way = (gD qq.tr a_1.k).way /\ (gD qq.tr a_1.k).back = (gD qq.tr a_1.k).back /\ y0 /\ y14 /\ y2 /\ y3 /\ y14 /\ y22 /\ y0 /\ y23 /\ y2 /\ y3 /\ y23 /\ y24 /\ 0 <= (gD qq.tr a_1.k).way /\ (gD qq.tr a_1.k).way < (↑y13 : Int)) /\ ∃ (a_3 : KI), (y33 /\ y34 /\ y33 /\ y34 /\ y35 /\ (↑a_3.k : Int) = IntKind.i64.wrap ((↑a_1.k : Int) + 1) /\ y0 /\ y1 /\ y2 /\ y3 /\ y1 /\ y4 /\ BA = BA /\ y5 /\ y6 /\ y7 /\ a_3.q = Ho a_1.q (AV (BW y12 (gD qq.tr a_1.k).way) (gD qq.tr a_1.k).back).snd) /\ y31 a_3 /\ y36 a_3 < y36 a_1 else (∃ (a_3 : KW), (y33 /\ y34 /\ y35 /\ (↑a_3.k : Int) = 0 /\ y0 /\ y37 a_3 /\ y2 /\ y3 /\ y37 a_3 /\ (∀ (i : Nat), i < a_3.all.length -> (gD a_3.all i).fr = (gD qq.d.all i).fr /\ (gD a_3.all i).to = (gD qq.d.all i).to /\ (gD a_3.all i).sp.lo = (gD qq.d.all i).sp.lo /\ (gD a_3.all i).sp.hi = (gD qq.d.all i).sp.hi /\ (gD a_3.all i).now = (gD qq.d.all i).now) /\ BA = BA /\ y5 /\ y6 /\ y7 /\ qq.q = a_1.q) /\ y38 a_3) /\ ∀ (a_3 : KW), y38 a_3 -> bif decide (y39 a_3) then (0 <= (↑a_3.k : Int) /\ y39 a_3) /\ ((gD qq.tr a_3.k).way = (gD qq.tr a_3.k).way /\ (gD qq.tr a_3.k).back = (gD qq.tr a_3.k).back /\ y0 /\ y42 a_3 /\ y2 /\ y3 /\ y42 a_3 /\ (∀ (i : Nat), i < y41 a_3 -> (y43 a_3 i).fr = (gD a_3.all i).fr /\ (y43 a_3 i).to = (gD a_3.all i).to /\ (y44 a_3 i).lo = (gD a_3.all i).sp.lo /\ (y44 a_3 i).hi = (gD a_3.all i).sp.hi /\ (y43 a_3 i).now = (gD a_3.all i).now) /\ qq.q = qq.q /\ y0 /\ a_3.all.length = y46 a_3 /\ y2 /\ y3 /\ qq.q = qq.q /\ 0 <= (gD qq.tr a_3.k).way /\ (gD qq.tr a_3.k).way < (↑(y41 a_3) : Int)) /\ ∃ (a_5 : KW), (y33 /\ y34 /\ y35 /\ (↑a_5.k : Int) = IntKind.i64.wrap ((↑a_3.k : Int) + 1) /\ y0 /\ a_5.all.length = a_3.all.length /\ y2 /\ y3 /\ a_5.all.length = y46 a_3 /\ (∀ (i : Nat), i < a_5.all.length -> (gD a_5.all i).fr = (y47 a_3 i).fr /\ (gD a_5.all i).to = (y47 a_3 i).to /\ (gD a_5.all i).sp.lo = (y48 a_3 i).lo /\ (gD a_5.all i).sp.hi = (y48 a_3 i).hi /\ (gD a_5.all i).now = (y47 a_3 i).now) /\ BA = BA /\ y5 /\ y6 /\ y7 /\ qq.q = qq.q) /\ y38 a_5 /\ y49 a_5 < y49 a_3 else qq.q = qq.q /\ y0 /\ y51 a_3 /\ y2 /\ y3 /\ y51 a_3 /\ (∀ (i : Nat), i < y50 -> (y52 i).fr = (gD a_3.all i).fr /\ (y52 i).to = (gD a_3.all i).to /\ (y53 i).lo = (gD a_3.all i).sp.lo /\ (y53 i).hi = (gD a_3.all i).sp.hi /\ (y52 i).now = (gD a_3.all i).now) /\ BA = BA /\ y5 /\ y6 /\ y7
 let y55 (a : TS) := a.l.length + 1
 let y56 (a : TS) (a1 : TS) := a.l.length = y55 a1
 let y57 (i : Nat) (a : TS) := decide (i < a.l.length)
 let y58 (a1 : TS) := qq.tr.length = a1.l.length
 let y59 (a : TS) := 0 + a.l.length <= a.l.length
 let y60 (a : TS) (j : Nat) : Step := gD a.l (0 + j)
 let y61 (a1 : TS) := ∀ (j : Nat), j < qq.tr.length -> (gD qq.tr j).way = (y60 a1 j).way /\ (gD qq.tr j).back = (y60 a1 j).back
 ((∃ (a_1 : One), (a.fr = a.fr /\ y0 /\ (∀ (i : Nat), i < 0 -> false = false) /\ a.to = a.to /\ y0 /\ y1 /\ y2 /\ y3 /\ y1 /\ y4 /\ BA = BA /\ y5 /\ y6 /\
 y7 /\ a.most = a.most) /\ True) /\ (∀ (a_1 : One), True -> bif a.to != a.fr then y8 /\ ((True /\ (0 < 0 -> 0 = 2)) /\ y11 /\ (true = true -> y9) /\ 1 <= 9223372036854775807 /\ 16 <= 140737488355328) /\ ((a.m.far
 a.to).by'.way = (a.m.far a.to).by'.way /\ (!(a.m.far a.to).by'.back) = !(a.m.far a.to).by'.back /\ y0 /\ y14 /\ y2 /\ y3 /\ y14 /\ y22 /\ y0 /\ y23 /\ y2 /\ y3 /\ y23 /\ y24 /\ 0
 <= (a.m.far a.to).by'.way /\ (a.m.far a.to).by'.way < (↑y13 : Int)) /\ ∃ (a_3 : TS), (a.fr = a.fr /\ y0 /\ y25 a_3 /\ a_3.v = DB y26 (Step.mk (a.m.far a.to).by'.way !(a.m.far a.to).by'.back) /\ y0 /\
 y1 /\ y2 /\ y3 /\ y1 /\ y4 /\ BA = BA /\ y5 /\ y6 /\ y7 /\ a.most = a.most /\ y25 a_3 /\ ∀ (i : Nat), i < a_3.l.length -> (gD a_3.l i).way = (a.m.far a.to).by'.way /\ (gD a_3.l i).back =
 (a.m.far a.to).by'.back) /\ y27 a_3 /\ y28 a_3 < a.tr.length else (∃ (a_3 : KI), (y29 /\ y29 /\ y29 /\ y29 /\ (↑a.tr.length : Int) = (↑0 : Int) /\ y30 a_3) /\ y31 a_3) /\ y54) /\ ∀ (a_1
 : TS), y27 a_1 -> bif a_1.v != a.fr then y8 /\ ((a_1.l.length = a_1.l.length /\ (0 < a_1.l.length -> y10)) /\ y11 /\ (false = true -> y9) /\ y55 a_1 <= 9223372036854775807 /\ y55 a_1 * 16 <= 140737488355328)
 /\ ((a.m.far a_1.v).by'.way = (a.m.far a_1.v).by'.way /\ (!(a.m.far a_1.v).by'.back) = !(a.m.far a_1.v).by'.back /\ y0 /\ y14 /\ y2 /\ y3 /\ y14 /\ y22 /\ y0 /\ y23 /\ y2 /\ y3 /\ y23 /\ y24 /\ 0 <= (a.m.far a_1.v).by'.way /\ (a.m.far a_1.v).by'.way < (↑y13 : Int)) /\ ∃ (a_3 : TS), (a.fr = a.fr /\ y0 /\ y56 a_3 a_1 /\ a_3.v = DB y26 (Step.mk (a.m.far a_1.v).by'.way !(a.m.far
 a_1.v).by'.back) /\ y0 /\ y1 /\ y2 /\ y3 /\ y1 /\ y4 /\ BA = BA /\ y5 /\ y6 /\ y7 /\ a.most = a.most /\ y56 a_3 a_1 /\ ∀ (i : Nat), i < a_3.l.length -> ((gD a_3.l i).way = bif y57 i a_1 then (gD a_1.l i).way else (a.m.far a_1.v).by'.way) /\ (gD a_3.l i).back = bif y57 i a_1 then (gD a_1.l i).back else (a.m.far a_1.v).by'.back) /\ y27 a_3 /\ y28 a_3 < y28 a_1 else (∃ (a_3 : KI),
 (y58 a_1 /\ y59 a_1 /\ y61 a_1 /\ y58 a_1 /\ y59 a_1 /\ y61 a_1 /\ (↑a.tr.length : Int) = (↑a_1.l.length : Int) /\ y30 a_3) /\ y31 a_3) /\ y54)) := by kernel_rfl
theorem ZN {d : Desk} {m : Map} {fr : Int} {k : Nat} {v : Int} {L : List Step} (h : EK d m fr (k + 1) v = some L) (hv : v ≠ fr) : ∃ L', L = (m.far v).by' :: L' /\ EK d m fr k (DB d ⟨(m.far v).by'.way, !(m.far v).by'.back⟩) = some L' := by
 simp only [EK, if_neg hv] at h
 split at h
 ·cases h
 ·rename_i l hl
  cases h; exact ⟨l, rfl, hl⟩
theorem Au {d : Desk} {m : Map} {fr : Int} {k : Nat} {v : Int} {L : List Step} (h : EK d m fr k v = some L) (hv : v = fr) : L = [] := by
 cases k with
 | zero => cases h
 | succ k => simp only [EK, if_pos hv] at h; cases h; rfl
theorem Pg {α : Type} [Inhabited α] {L M : List α} {x : α} {n : Nat} (h : L = M ++ L.drop n) (hn : M.length = n) (hd : L.drop n = x :: L.drop (n + 1)) : L = (M ++ [x]) ++ L.drop (n + 1) := by
 rw [List.append_assoc, List.singleton_append, <- hd]; exact h
theorem Ml {α : Type} {L : List α} {x : α} {n : Nat} {R : List α} (h : L.drop n = x :: R) : L.drop (n + 1) = R := by
 rw [<- List.drop_drop, h]; rfl
theorem Dg {α : Type} [Inhabited α] {l : List α} {k : Nat} (h : k < l.length) : gD l k ∈ l := by
 simp only [gD, List.getD_eq_getElem?_getD, List.getElem?_eq_getElem h, Option.getD_some]; exact List.getElem_mem h
theorem p97 (a : DM) (hd : a.d.ok) (ht : (EK a.d a.m a.fr fuel a.to).isSome = true) (hs : ∀ s ∈ a.tr, 0 <= s.way /\ s.way < a.d.all.length) (hL : a.tr.length <= 1000) : V97 a := by
 have htr : EK a.d a.m a.fr fuel a.to = some a.tr := by
  obtain ⟨r, h⟩ := Option.isSome_iff_exists.1 ht
  simp [DM.tr, h]
 have hfuel : fuel = 1000000000000000000 := rfl
 obtain ⟨K, hK⟩ : ∃ K, fuel = K + 1 := ⟨999999999999999999, rfl⟩
 have hlen := hd.len
 have hq : CY a.d a.most a.tr = a.q := rfl
 rw [Zf]; (conv => zeta)
 simp only [CC, eq_self, implies_true, forall_const, bne_iff_ne, ne_eq, bne_eq_false_iff_eq, YH, ID, YD]
 generalize a.tr = L at *
 generalize a.q = q at *
 refine ⟨⟨⟨0⟩, trivial⟩, ⟨λ hne => ?g1, λ heq => ⟨?g2, ?rest⟩⟩, λ a1 ⟨h1, h2, k1, hk1, hl1⟩ => ⟨λ hne => ?g3, λ heq => ⟨?g4, ?rest2⟩⟩⟩
 case g1 =>
  rw [hK] at htr
  obtain ⟨L', e1, e2⟩ := ZN htr hne
  have hs1 := hs _ (show (a.m.far a.to).by' ∈ L by rw [e1]; simp)
  refine ⟨rfl, by decide, hs1, ⟨[(a.m.far a.to).by'], _⟩, ⟨rfl, rfl, rfl, λ i hi => ?_⟩, ⟨by rw [e1]; simp, by rw [e1]; simp, K, hK.symm.trans hfuel, ?_⟩, by rw [e1]; simp⟩
  ·have : i = 0 := by simpa using hi
   subst this; exact ⟨rfl, rfl⟩
  ·rw [e1]; exact e2
 case g2 =>
  have := Au htr heq
  subst this
  exact ⟨⟨0, a.most⟩, ⟨rfl, rfl, rfl, rfl, rfl, rfl, rfl⟩, by simp, hq⟩
 case g3 =>
  cases k1 with
  | zero => cases hl1
  | succ k1 =>
  obtain ⟨L', e1, e2⟩ := ZN hl1 hne
  have hlt : a1.l.length < L.length := by
   have := congrArg List.length e1
   simp at this; omega
  have e3 : L.drop (a1.l.length + 1) = L' := Ml e1
  have hs1 := hs _ (show (a.m.far a1.v).by' ∈ L by rw [h2, e1]; simp)
  refine ⟨rfl, ⟨by decide, by decide, by omega, by omega⟩, hs1, ⟨a1.l ++ [(a.m.far a1.v).by'], _⟩, ⟨by simp, rfl, by simp, λ i hi => ?_⟩, ⟨by simp; omega, ?_, k1, by simp; omega, ?_⟩, by simp; omega⟩
  ·rw [CA]
   by_cases hi2 : i < a1.l.length
   ·simp [hi2]
   ·have hi3 : i - a1.l.length = 0 := by simp at hi; omega
    simp only [hi2, if_false, hi3, decide_false, cond_false]
    exact ⟨rfl, rfl⟩
  ·have : (a1.l ++ [(a.m.far a1.v).by']).length = a1.l.length + 1 := by simp
   rw [this]
   refine Pg h2 rfl ?_
   rw [e3]; exact e1
  ·have : (a1.l ++ [(a.m.far a1.v).by']).length = a1.l.length + 1 := by simp
   rw [this, e3]
   exact e2
 case g4 =>
  have e := Au hl1 heq
  rw [e, List.append_nil] at h2
  subst h2
  exact ⟨⟨0, a.most⟩, ⟨rfl, Nat.le_refl _, λ _ _ => ⟨rfl, rfl⟩, rfl, Nat.le_refl _, λ _ _ => ⟨rfl, rfl⟩, rfl, rfl, rfl⟩, by simp, hq⟩
 case rest | rest2 =>
  intro a2 ⟨h3, h4⟩
  refine ⟨λ hlt => ⟨⟨by omega, hlt⟩, hs _ (Dg (by omega)), ⟨⟨a2.k + 1, _⟩, ⟨(BB (by omega)).symm, rfl⟩, ⟨by show a2.k + 1 <= _; omega, ?_⟩, by show _ - (a2.k + 1) < _; omega⟩⟩, λ hge => ⟨⟨⟨0, a.d.all⟩, ⟨rfl, rfl, rfl, λ i _ => ⟨rfl, rfl, rfl, rfl, rfl⟩, ?_⟩, by simp, rfl, rfl⟩, λ a5 ⟨h5, h6, h7⟩ => ⟨λ hlt => ?_, λ hge => ?_⟩⟩⟩
  ·rw [DX (by omega)] at h4; exact h4
  ·rw [List.drop_eq_nil_of_le (by omega)] at h4; exact h4.symm
  ·refine ⟨⟨by omega, hlt⟩, by rw [h6]; exact hs _ (Dg (by omega)), ⟨⟨a5.k + 1, DH q a5.all (gD L a5.k)⟩, ⟨(BB (by omega)).symm, ID _ _ _, ID _ _ _, λ i _ => ⟨rfl, rfl, rfl, rfl, rfl⟩⟩, ⟨by show a5.k + 1 <= _; omega, (ID _ _ _).trans h6, ?_⟩, by show _ - (a5.k + 1) < _; omega⟩⟩
   rw [DX (by omega)] at h7; exact h7
  ·rw [List.drop_eq_nil_of_le (by omega)] at h7
   have h7 : a5.all = AI q a.d.all L := h7
   rw [<- h7]
   exact ⟨rfl, rfl, λ i _ => ⟨rfl, rfl, rfl, rfl, rfl⟩⟩
theorem Ya (dec : List AVal -> Heap -> Option (DM × List (Nat × Nat) × List Nat)) : AL Try.prog 97 (C97.spec dec) := JC C97 A97 [] [] Try.func97 (λ _ => by kernel_rfl) (λ _ => AB Nu (AB Lc (AB Vx AH))) (λ a h => p97 a h.1 h.2.1 h.2.2.1 h.2.2.2) (λ _ => KF rfl rfl) _
end Go.Bal
