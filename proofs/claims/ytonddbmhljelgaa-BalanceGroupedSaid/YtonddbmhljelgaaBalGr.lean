/- BalanceGrouped. -/
import Derived.Test.YtonddbmhljelgaaBalAr
import Derived.Test.YtonddbmhljelgaaBalT21
set_option linter.unusedVariables false
set_option linter.unusedSimpArgs false
namespace Go.Bal
open Go Go.Sym Go.Proofs
structure GA where
  s : Stm
  all : List Int
  gr : List Int
  ot : List Int
  v : Nat
  deriving Inhabited
structure GB where
  b : List Bool
  sum : Int
  i : Nat
  deriving Inhabited
structure GO where
  b : List Bool
  sum : Int
  o : Int
  l : Int
  h : Int
  i : Nat
  deriving Inhabited
structure GC where
  gr : List Int
  ot : List Int
  deriving Inhabited
def grN (a : BB) : NetL := mkN a.a 6
def grTr (a : BB) : TruthL := mkT a.a 6
def grH (a : BB) : List (Nat × HCell) := [(201, begO (grN a)), (202, truO (grTr a))]
def grS0 : List (Nat × AVal) := [(5, .bptr 201 0), (6, .bptr 202 0)]
def Part (v : Nat) (l : List Int) : Prop := (∀ x ∈ l, 0 ≤ x ∧ x < v) ∧ l.Pairwise (· < ·)
def gaInv (a : BB) (s : GA) : Prop := s.v ≤ (grN a).g.length ∧ StmB (10 * (s.v : Int)) s.s ∧ s.all.length = s.v ∧ (∀ i, i < s.v → gD s.all i = i) ∧ Part s.v s.gr ∧ Part s.v s.ot ∧ ∀ j : Nat, j < s.v → ((j : Int) ∈ s.ot ↔ (j : Int) ∉ s.gr)
def gaSl (s : GA) (x y z : AVal) : List (Nat × AVal) := grS0 ++ [(7, .bptr 203 0), (8, x), (9, y), (10, z), (11, .int 0), (12, .int s.v)]
def gaA (s : GA) : List (Nat × HCell) := [(204, rowL s.all.length s.all)]
def gaG (s : GA) : List (Nat × HCell) := [(205, rowL s.gr.length s.gr)]
def gaO (s : GA) : List (Nat × HCell) := [(206, rowL s.ot.length s.ot)]
def ga3 (a : BB) (l : List (Nat × Nat)) : Shape := { α := GA, dflt := default, T := fun s => ⟨gaSl s (.own 204 1 0 s.all.length) (.own 205 1 0 s.gr.length) (.own 206 1 0 s.ot.length), grH a ++ [(203, stmH s.s)] ++ gaA s ++ gaG s ++ gaO s⟩, inv := fun s => gaInv a s ∧ 0 < s.v ∧ s.gr ≠ [] ∧ s.ot ≠ [], meas := fun s => (grN a).g.length - s.v, again := l }
def gcInv (a : BB) (s : GC) : Prop := Part (grN a).g.length s.gr ∧ Part (grN a).g.length s.ot ∧ (∀ j : Nat, j < (grN a).g.length → ((j : Int) ∈ s.ot ↔ (j : Int) ∉ s.gr)) ∧ s.gr ≠ [] ∧ s.ot ≠ []
def rowB (n : Nat) (b : List Bool) : HCell := .live (.row 1 n fun i => eBool (gD b i))
def gbInv (a : BB) (c : GC) (s : GB) : Prop := gcInv a c ∧ s.i ≤ c.gr.length ∧ s.b.length = (grN a).g.length ∧ (∀ j : Nat, j < (grN a).g.length → gD s.b j = decide ((j : Int) ∈ c.gr.take s.i)) ∧ s.sum = grpV (c.gr.take s.i) (grTr a)
structure GBC where
  c : GC
  s : GB
  deriving Inhabited
structure GOC where
  c : GC
  s : GO
  deriving Inhabited
def goN (a : BB) (c : GC) (i : Nat) : Int := sideB (inG c.gr) (gD (grN a).r i)
def goInv (a : BB) (x : GOC) : Prop := gcInv a x.c ∧ x.s.i ≤ (grN a).r.length ∧ x.s.b.length = (grN a).g.length ∧ (∀ j : Nat, j < (grN a).g.length → gD x.s.b j = inG x.c.gr (j : Int)) ∧ x.s.sum = grpV x.c.gr (grTr a) ∧ x.s.o = sumN x.s.i (fun i => ovF (goN a x.c i) (gD (grTr a).f i)) ∧ x.s.l = sumN x.s.i (fun i => loF (goN a x.c i) (gD (grN a).r i).sp) ∧ x.s.h = sumN x.s.i fun i => hiF (goN a x.c i) (gD (grN a).r i).sp
def A6 (a : BB) : Ann := { ann 234 [(30, C30.spec d30), (29, C29.spec d33), (35, C35t.spec dGr), (33, C33.spec d33), (14, s14)] with mt := fun id => id == 8 || id == 10 || id == 11, cutIn := fun gs id => if id = 12 then some [{ α := GA, dflt := default, T := fun s => ⟨grS0 ++ [(8, .d (eIntsL s.all)), (9, .d (eIntsL s.gr)), (10, .d (eIntsL s.ot)), (11, .int 0)], grH a⟩, inv := fun s => gaInv a s ∧ s.v = (grN a).g.length, meas := fun _ => 0, ffz := [204, 205, 206] }] else if id = 27 then some [{ α := GOC, dflt := default, T := fun x => ⟨grS0 ++ [(11, .int x.s.sum), (15, .own 207 1 0 (grN a).g.length), (17, .bptr 208 0)], grH a ++ [(207, rowB (grN a).g.length x.s.b), (208, .live (.box [.int (grpT ⟨grN a, x.c.gr⟩).lo, .int (grpT ⟨grN a, x.c.gr⟩).hi]))]⟩, inv := fun x => goInv a x ∧ x.s.i = 0, meas := fun _ => 0, first := [(208, 24096)] }] else none, loops := fun id => if id = 6 then some [{ α := GA, dflt := default, T := fun s => ⟨gaSl s (.d nilL) (.d nilL) (.d nilL), grH a ++ [(203, stmH s.s)]⟩, inv := fun s => gaInv a s ∧ s.v = 0, meas := fun s => (grN a).g.length - s.v, first := [(201, 2096), (202, 2112), (203, 3016)] }, { α := GA, dflt := default, T := fun s => ⟨gaSl s (.own 204 1 0 s.all.length) (.own 205 1 0 s.gr.length) (.d nilL), grH a ++ [(203, stmH s.s)] ++ gaA s ++ gaG s⟩, inv := fun s => gaInv a s ∧ 0 < s.v ∧ s.gr ≠ [] ∧ s.ot = [], meas := fun s => (grN a).g.length - s.v, again := [(204, 9048), (205, 11048)] }, { α := GA, dflt := default, T := fun s => ⟨gaSl s (.own 204 1 0 s.all.length) (.d nilL) (.own 206 1 0 s.ot.length), grH a ++ [(203, stmH s.s)] ++ gaA s ++ gaO s⟩, inv := fun s => gaInv a s ∧ 0 < s.v ∧ s.gr = [] ∧ s.ot ≠ [], meas := fun s => (grN a).g.length - s.v, again := [(204, 9048), (206, 12048)] }, ga3 a [(204, 9048), (205, 11048)], ga3 a [(204, 9048), (206, 12048)]] else if id = 19 then some [{ α := GBC, dflt := default, T := fun x => ⟨grS0 ++ [(9, .d (eIntsL x.c.gr)), (10, .d (eIntsL x.c.ot)), (11, .int x.s.sum), (15, .own 207 1 0 (grN a).g.length), (16, .int x.s.i)], grH a ++ [(207, rowB (grN a).g.length x.s.b)]⟩, inv := fun x => gbInv a x.c x.s, meas := fun x => x.c.gr.length - x.s.i, first := [(207, 18048)] }] else if id = 30 then some [{ α := GOC, dflt := default, T := fun x => ⟨grS0 ++ [(11, .int x.s.sum), (15, .own 207 1 0 (grN a).g.length), (17, .bptr 208 0), (20, .int x.s.o), (21, .int x.s.l), (22, .int x.s.h), (23, .int x.s.i)], grH a ++ [(207, rowB (grN a).g.length x.s.b), (208, .live (.box [.int (grpT ⟨grN a, x.c.gr⟩).lo, .int (grpT ⟨grN a, x.c.gr⟩).hi]))]⟩, inv := fun x => goInv a x, meas := fun x => (grN a).r.length - x.s.i }] else none }
def V6 (a : BB) : Prop := fnVC Try.prog (A6 a) Try.f6 (bodyOf Try.f6) [.d (eBys a.a), .d (eBys a.b)] (heapOf []) (.bool true) [] [] []
abbrev z6_0 (a : BB) : List Int := rng a.a.length fun (i : Nat) => gD a.a i
abbrev z6_1 (a : BB) : Nat := (z6_0 a).length
abbrev z6_2 (a : BB) (i : Nat) : Int := gD (z6_0 a) i
abbrev z6_3 (a : BB) : List Int := rng (z6_1 a) fun (i : Nat) => z6_2 a i
abbrev z6_4 (a : BB) : Nat := (z6_3 a).length
abbrev z6_5 : Prop := (0 : Int) = (0 : Int)
abbrev z6_6 (a : BB) : Stm := Stm.mk (z6_3 a) (0 : Int) (0 : Int)
abbrev z6_7 (a : BB) : List Int := rng a.b.length fun (i : Nat) => gD a.b i
abbrev z6_8 (a : BB) : Nat := (z6_7 a).length
abbrev z6_9 (a : BB) (i : Nat) : Int := gD (z6_7 a) i
abbrev z6_10 : Prop := (0 : Nat) = (0 : Nat)
abbrev z6_11 : Prop := ∀ (i : Nat), i < (0 : Nat) → false = false
abbrev z6_12 : Prop := Int.ofNat (0 : Nat) = Int.ofNat (0 : Nat)
abbrev z6_13 (a : BB) : SN := SN.mk (z6_6 a) (6 : Int)
abbrev z6_14 (a : BB) : NetL := madeN (z6_13 a)
abbrev z6_15 (a : BB) : List Span := (z6_14 a).g
abbrev z6_16 (a : BB) (i : Nat) : Span := gD (z6_15 a) i
abbrev z6_17 (a : BB) : List Reach := (z6_14 a).r
abbrev z6_18 (a : BB) (i : Nat) : Reach := gD (z6_17 a) i
abbrev z6_19 (a : BB) (i : Nat) : Span := (z6_18 a i).sp
abbrev z6_20 (a : BB) : TruthL := madeTr (z6_13 a)
abbrev z6_21 (a : BB) : List Int := (z6_20 a).f
abbrev z6_22 (a : BB) : List Int := (z6_20 a).t
abbrev z6_23 (x : Int) (a : GA) : Prop := (0 : Int) ≤ x ∧ x < (↑a.v : Int)
abbrev z6_24 (a : GA) (a1 : BB) : Prop := a.v ≤ (grN a1).g.length ∧ StmB ((10 : Int) * (↑a.v : Int)) a.s ∧ a.all.length = a.v ∧ (∀ (i : Nat), i < a.v → gD a.all i = (↑i : Int)) ∧ ((∀ (x : Int), List.Mem x a.gr → z6_23 x
 a) ∧ List.Pairwise (fun (x1 x2 : Int) => x1 < x2) a.gr) ∧ ((∀ (x : Int), List.Mem x a.ot → z6_23 x a) ∧ List.Pairwise (fun (x1 x2 : Int) => x1 < x2) a.ot) ∧ ∀ (j : Nat), j < a.v → ((↑j : Int) ∈ a.ot ↔ ¬(↑j : Int) ∈ a.gr)
abbrev z6_25 (a : GA) (a1 : BB) : Prop := z6_24 a a1 ∧ a.v = (0 : Nat)
abbrev z6_26 (a : GA) (a1 : BB) : Bool := decide ((↑a.v : Int) < (↑(grN a1).g.length : Int))
abbrev z6_27 : Prop := (0 : Nat) < (1 : Nat)
abbrev z6_28 : Prop := (1 : Nat) = (1 : Nat)
abbrev z6_29 : Prop := (1 : Nat) ≤ (1 : Nat) ∧ (z6_27 → z6_28)
abbrev z6_30 : Prop := (True ∧ ((0 : Nat) < (0 : Nat) → (0 : Nat) = (1 : Nat))) ∧ z6_29 ∧ (true = true → z6_27) ∧ (1 : Nat) ≤ (9223372036854775807 : Nat) ∧ (8 : Nat) ≤ (140737488355328 : Nat)
abbrev z6_31 (a : GA) : List Int := rng a.s.bs.length fun (i : Nat) => gD a.s.bs i
abbrev z6_32 (a : GA) : Nat := (z6_31 a).length
abbrev z6_33 (a : GA) : Prop := (2 : Int) = Int.ofNat (2 : Nat) ∧ z6_32 a = a.s.bs.length ∧ (∀ (i : Nat), i < z6_32 a → gD (z6_31 a) i = gD a.s.bs i) ∧ a.s.used = a.s.used ∧ a.s.mix = a.s.mix ∧ (a.s.used - (0 :
 Int)).NonNeg
abbrev z6_34 (a : GA) : Stm := Stm.mk (z6_31 a) a.s.used a.s.mix
abbrev z6_35 (a : GA) : Bool := nextV (z6_34 a) (2 : Int) == (0 : Int)
abbrev z6_36 (a : GA) : Prop := a.all.length = (1 : Nat)
abbrev z6_37 (a : GA) : Prop := a.gr.length = (1 : Nat)
abbrev z6_38 (a : GA) (a1 : GA) : Prop := (↑a.v : Int) = IntKind.i64.wrap ((↑a1.v : Int) + (1 : Int))
abbrev z6_39 (a : BB) : Prop := (grN a).g.length = (grN a).g.length
abbrev z6_40 (a : BB) : Prop := ∀ (i : Nat), i < (grN a).g.length → (gD (grN a).g i).lo = (gD (grN a).g i).lo ∧ (gD (grN a).g i).hi = (gD (grN a).g i).hi
abbrev z6_41 (a : BB) : Prop := (grN a).r.length = (grN a).r.length
abbrev z6_42 (a : BB) : Prop := ∀ (i : Nat), i < (grN a).r.length → (gD (grN a).r i).fr = (gD (grN a).r i).fr ∧ (gD (grN a).r i).to = (gD (grN a).r i).to ∧ (gD (grN a).r i).sp.lo = (gD (grN a).r i).sp.lo ∧ (gD (grN a).r
 i).sp.hi = (gD (grN a).r i).sp.hi
abbrev z6_43 (a : BB) : Prop := (grTr a).f.length = (grTr a).f.length
abbrev z6_44 (a : BB) : Prop := ∀ (i : Nat), i < (grTr a).f.length → gD (grTr a).f i = gD (grTr a).f i
abbrev z6_45 (a : BB) : Prop := (grTr a).t.length = (grTr a).t.length
abbrev z6_46 (a : BB) : Prop := ∀ (i : Nat), i < (grTr a).t.length → gD (grTr a).t i = gD (grTr a).t i
abbrev z6_47 (a : GA) : Stm := nextS (z6_34 a) (2 : Int)
abbrev z6_48 (a : GA) : List Int := (z6_47 a).bs
abbrev z6_49 (a : GA) (a1 : GA) : Prop := a.s.bs.length = (z6_48 a1).length
abbrev z6_50 (a : GA) (a1 : GA) : Prop := ∀ (i : Nat), i < a.s.bs.length → gD a.s.bs i = gD (z6_48 a1) i
abbrev z6_51 (a : GA) (a1 : GA) : Prop := a.s.used = (z6_47 a1).used
abbrev z6_52 (a : GA) (a1 : GA) : Prop := a.s.mix = (z6_47 a1).mix
abbrev z6_53 (a : GA) (a1 : GA) : Prop := ∀ (i : Nat), i < a.all.length → gD a.all i = (↑a1.v : Int)
abbrev z6_54 (a : GA) (a1 : GA) : Prop := ∀ (i : Nat), i < a.gr.length → gD a.gr i = (↑a1.v : Int)
abbrev z6_55 (a : GA) : Prop := (0 : Nat) < a.v
abbrev z6_56 (a : GA) (a1 : BB) : Prop := z6_24 a a1 ∧ z6_55 a ∧ a.gr ≠ [] ∧ a.ot = []
abbrev z6_57 (a : BB) (a1 : GA) : Nat := (grN a).g.length - a1.v
abbrev z6_58 (a : BB) (a1 : GA) (a2 : GA) : Prop := z6_57 a a1 < z6_57 a a2
abbrev z6_59 (a : GA) (a1 : BB) (a2 : GA) : Prop := z6_56 a a1 ∧ z6_58 a1 a a2
abbrev z6_60 (a : GA) : Prop := a.ot.length = (1 : Nat)
abbrev z6_61 (a : GA) (a1 : GA) : Prop := z6_60 a ∧ ∀ (i : Nat), i < a.ot.length → gD a.ot i = (↑a1.v : Int)
abbrev z6_62 (a : GA) (a1 : BB) : Prop := z6_24 a a1 ∧ z6_55 a ∧ a.gr = [] ∧ a.ot ≠ []
abbrev z6_63 (a : GA) (a1 : BB) (a2 : GA) : Prop := z6_62 a a1 ∧ z6_58 a1 a a2
abbrev z6_64 (a : GA) : Prop := a.all.length = (0 : Nat)
abbrev z6_65 (a : GA) : Prop := a.gr.length = (0 : Nat)
abbrev z6_66 (a : GA) : Prop := a.ot.length = (0 : Nat)
abbrev z6_67 (a : BB) : Prop := z6_12 ∧ z6_39 a ∧ z6_40 a ∧ z6_41 a ∧ z6_42 a ∧ z6_43 a ∧ z6_44 a ∧ z6_45 a ∧ z6_46 a
abbrev z6_68 (a : GA) (a1 : BB) : Prop := z6_66 a ∧ z6_66 a ∧ z6_67 a1
abbrev z6_69 (a : GA) (a1 : BB) : Prop := z6_24 a a1 ∧ a.v = (grN a1).g.length
abbrev z6_70 : Prop := false = true → z6_27
abbrev z6_71 (a : GA) : Nat := a.all.length + (1 : Nat)
abbrev z6_72 (a : GA) : Prop := (a.all.length = a.all.length ∧ ((0 : Nat) < a.all.length → z6_28)) ∧ z6_29 ∧ z6_70 ∧ z6_71 a ≤ (9223372036854775807 : Nat) ∧ z6_71 a * (8 : Nat) ≤ (140737488355328 : Nat)
abbrev z6_73 (a : GA) : Nat := a.gr.length + (1 : Nat)
abbrev z6_74 (a : GA) : Prop := (a.gr.length = a.gr.length ∧ ((0 : Nat) < a.gr.length → z6_28)) ∧ z6_29 ∧ z6_70 ∧ z6_73 a ≤ (9223372036854775807 : Nat) ∧ z6_73 a * (8 : Nat) ≤ (140737488355328 : Nat)
abbrev z6_75 (a : GA) (a1 : GA) : Prop := a.all.length = z6_71 a1
abbrev z6_76 (a : GA) (a1 : GA) : Prop := a.gr.length = z6_73 a1
abbrev z6_77 (a : GA) (a1 : GA) : Prop := ∀ (i : Nat), i < a.all.length → gD a.all i = bif decide (i < a1.all.length) then gD a1.all i else (↑a1.v : Int)
abbrev z6_78 (a : GA) (a1 : GA) : Prop := ∀ (i : Nat), i < a.gr.length → gD a.gr i = bif decide (i < a1.gr.length) then gD a1.gr i else (↑a1.v : Int)
abbrev z6_79 (a : GA) (a1 : GA) : Prop := a.gr.length = a1.gr.length
abbrev z6_80 (a : GA) (a1 : GA) : Prop := ∀ (i : Nat), i < a.gr.length → gD a.gr i = gD a1.gr i
abbrev z6_81 (a : GA) (a1 : BB) : Prop := z6_24 a a1 ∧ z6_55 a ∧ a.gr ≠ [] ∧ a.ot ≠ []
abbrev z6_82 : Nat × Nat := ((204 : Nat), (9048 : Nat))
abbrev z6_83 (a : BB) (a1 : GA) : Nat := (ga3 a [z6_82, ((206 : Nat), (12048 : Nat))]).meas a1
abbrev z6_84 (a : GA) (a1 : GA) : Prop := a.all.length = a1.all.length
abbrev z6_85 (a : GA) : Prop := (0 : Nat) + a.all.length ≤ a.all.length
abbrev z6_86 (j : Nat) : Nat := (0 : Nat) + j
abbrev z6_87 (a : GA) (a1 : GA) : Prop := ∀ (j : Nat), j < a.all.length → gD a.all j = gD a1.all (z6_86 j)
abbrev z6_88 (a : GA) : Prop := (0 : Nat) + a.gr.length ≤ a.gr.length
abbrev z6_89 (a : GA) (a1 : GA) : Prop := ∀ (j : Nat), j < a.gr.length → gD a.gr j = gD a1.gr (z6_86 j)
abbrev z6_90 (a : GA) (a1 : GA) : Prop := a.ot.length = a1.ot.length
abbrev z6_91 (a : GA) (a1 : GA) : Prop := z6_90 a a1 ∧ ∀ (i : Nat), i < a.ot.length → gD a.ot i = gD a1.ot i
abbrev z6_92 (a : BB) (a1 : GA) : Nat := (ga3 a [z6_82, ((205 : Nat), (11048 : Nat))]).meas a1
abbrev z6_93 (a : GA) : Nat := a.ot.length + (1 : Nat)
abbrev z6_94 (a : GA) : Prop := (a.ot.length = a.ot.length ∧ ((0 : Nat) < a.ot.length → z6_28)) ∧ z6_29 ∧ z6_70 ∧ z6_93 a ≤ (9223372036854775807 : Nat) ∧ z6_93 a * (8 : Nat) ≤ (140737488355328 : Nat)
abbrev z6_95 (a : GA) (a1 : GA) : Prop := a.ot.length = z6_93 a1
abbrev z6_96 (a : GA) (a1 : GA) : Prop := z6_95 a a1 ∧ ∀ (i : Nat), i < a.ot.length → gD a.ot i = bif decide (i < a1.ot.length) then gD a1.ot i else (↑a1.v : Int)
abbrev z6_97 (a : GA) (a1 : GA) (a2 : BB) : Prop := z6_90 a a1 ∧ (0 : Nat) + a1.ot.length ≤ a1.ot.length ∧ (∀ (j : Nat), j < a.ot.length → gD a.ot j = gD a1.ot (z6_86 j)) ∧ z6_67 a2
abbrev z6_98 (a : GA) (a1 : GA) (a2 : BB) : Prop := z6_10 ∧ z6_75 a a1 ∧ z6_10 ∧ z6_76 a a1 ∧ z6_10 ∧ z6_90 a a1 ∧ z6_12 ∧ z6_38 a a1 ∧ z6_39 a2 ∧ z6_40 a2 ∧ z6_41 a2 ∧ z6_42 a2 ∧ z6_43 a2 ∧ z6_44 a2 ∧ z6_45 a2 ∧ z6_46
 a2 ∧ z6_49 a a1 ∧ z6_50 a a1 ∧ z6_51 a a1 ∧ z6_52 a a1 ∧ z6_75 a a1 ∧ z6_77 a a1 ∧ z6_76 a a1 ∧ z6_78 a a1 ∧ z6_91 a a1
abbrev z6_99 (a : GA) (a1 : GA) (a2 : BB) : Prop := z6_10 ∧ z6_75 a a1 ∧ z6_10 ∧ z6_79 a a1 ∧ z6_10 ∧ z6_95 a a1 ∧ z6_12 ∧ z6_38 a a1 ∧ z6_39 a2 ∧ z6_40 a2 ∧ z6_41 a2 ∧ z6_42 a2 ∧ z6_43 a2 ∧ z6_44 a2 ∧ z6_45 a2 ∧ z6_46
 a2 ∧ z6_49 a a1 ∧ z6_50 a a1 ∧ z6_51 a a1 ∧ z6_52 a a1 ∧ z6_75 a a1 ∧ z6_77 a a1 ∧ z6_79 a a1 ∧ z6_80 a a1 ∧ z6_96 a a1
abbrev z6_100 (a : GA) (a1 : BB) : Prop := ∃ (a_1 : GA), (z6_84 a_1 a ∧ z6_85 a ∧ z6_87 a_1 a ∧ z6_79 a_1 a ∧ z6_88 a ∧ z6_89 a_1 a ∧ z6_97 a_1 a a1) ∧ z6_69 a_1 a1
abbrev z6_101 (a : BB) : List Span := rng (grN a).g.length fun (i : Nat) => gD (grN a).g i
abbrev z6_102 (a : BB) : Nat := (z6_101 a).length
abbrev z6_103 (a : BB) : Prop := z6_102 a = (grN a).g.length
abbrev z6_104 (a : BB) (i : Nat) : Span := gD (z6_101 a) i
abbrev z6_105 (a : BB) : Prop := ∀ (i : Nat), i < z6_102 a → (z6_104 a i).lo = (gD (grN a).g i).lo ∧ (z6_104 a i).hi = (gD (grN a).g i).hi
abbrev z6_106 (a : BB) : List Reach := rng (grN a).r.length fun (i : Nat) => gD (grN a).r i
abbrev z6_107 (a : BB) : Nat := (z6_106 a).length
abbrev z6_108 (a : BB) : Prop := z6_107 a = (grN a).r.length
abbrev z6_109 (a : BB) (i : Nat) : Reach := gD (z6_106 a) i
abbrev z6_110 (a : BB) (i : Nat) : Span := (z6_109 a i).sp
abbrev z6_111 (a : BB) : Prop := ∀ (i : Nat), i < z6_107 a → (z6_109 a i).fr = (gD (grN a).r i).fr ∧ (z6_109 a i).to = (gD (grN a).r i).to ∧ (z6_110 a i).lo = (gD (grN a).r i).sp.lo ∧ (z6_110 a i).hi = (gD (grN a).r
 i).sp.hi
abbrev z6_112 (a : GA) : List Int := rng a.all.length fun (i : Nat) => gD a.all i
abbrev z6_113 (a : GA) : Nat := (z6_112 a).length
abbrev z6_114 (a : BB) : NetL := NetL.mk (z6_101 a) (z6_106 a)
abbrev z6_115 (a : BB) (a1 : GA) : NGr := NGr.mk (z6_114 a) (z6_112 a1)
abbrev z6_116 (a : BB) (a1 : GA) : Span := grpT (z6_115 a a1)
abbrev z6_117 (x : Int) (a : BB) : Prop := (0 : Int) ≤ x ∧ x < (↑(grN a).g.length : Int)
abbrev z6_118 (a : GBC) (a1 : BB) : Prop := (((∀ (x : Int), List.Mem x a.c.gr → z6_117 x a1) ∧ List.Pairwise (fun (x1 x2 : Int) => x1 < x2) a.c.gr) ∧ ((∀ (x : Int), List.Mem x a.c.ot → z6_117 x a1) ∧ List.Pairwise (fun
 (x1 x2 : Int) => x1 < x2) a.c.ot) ∧ (∀ (j : Nat), j < (grN a1).g.length → ((↑j : Int) ∈ a.c.ot ↔ ¬(↑j : Int) ∈ a.c.gr)) ∧ a.c.gr ≠ [] ∧ a.c.ot ≠ []) ∧ a.s.i ≤ a.c.gr.length ∧ a.s.b.length = (grN a1).g.length ∧ (∀ (j :
 Nat), j < (grN a1).g.length → gD a.s.b j = decide ((↑j : Int) ∈ List.take a.s.i a.c.gr)) ∧ a.s.sum = grpV (List.take a.s.i a.c.gr) (grTr a1)
abbrev z6_119 (a : GBC) : Prop := (↑a.s.i : Int) < (↑a.c.gr.length : Int)
abbrev z6_120 (a : GBC) : Prop := (0 : Int) ≤ (↑a.s.i : Int) ∧ z6_119 a
abbrev z6_121 (a : GBC) : Prop := (0 : Int) ≤ gD a.c.gr a.s.i
abbrev z6_122 (a : GBC) : Nat := (gD a.c.gr a.s.i).toNat
abbrev z6_123 (a : GBC) : Nat := (0 : Nat) + z6_122 a
abbrev z6_124 (a : GBC) : Nat := a.c.gr.length - a.s.i
abbrev z6_125 (a : GBC) : List Int := rng a.c.gr.length fun (i : Nat) => gD a.c.gr i
abbrev z6_126 (a : GBC) : Nat := (z6_125 a).length
abbrev z6_127 (a : GBC) : List Int := rng a.c.ot.length fun (i : Nat) => gD a.c.ot i
abbrev z6_128 (a : GBC) : Nat := (z6_127 a).length
abbrev z6_129 (a : BB) (a1 : GBC) : NGr := NGr.mk (z6_114 a) (z6_125 a1)
abbrev z6_130 (a : BB) (a1 : GBC) : NGr := NGr.mk (z6_114 a) (z6_127 a1)
abbrev z6_131 (a : BB) (a1 : GBC) : Span := grpT (z6_129 a a1)
abbrev z6_132 (a : BB) (a1 : GBC) : Int := (z6_131 a a1).lo
abbrev z6_133 (a : BB) (a1 : GBC) : Span := grpT (z6_130 a a1)
abbrev z6_134 (a : BB) (a1 : GBC) : Int := (z6_131 a a1).hi
abbrev z6_135 (a : GOC) (a1 : BB) : Prop := (((∀ (x : Int), List.Mem x a.c.gr → z6_117 x a1) ∧ List.Pairwise (fun (x1 x2 : Int) => x1 < x2) a.c.gr) ∧ ((∀ (x : Int), List.Mem x a.c.ot → z6_117 x a1) ∧ List.Pairwise (fun
 (x1 x2 : Int) => x1 < x2) a.c.ot) ∧ (∀ (j : Nat), j < (grN a1).g.length → ((↑j : Int) ∈ a.c.ot ↔ ¬(↑j : Int) ∈ a.c.gr)) ∧ a.c.gr ≠ [] ∧ a.c.ot ≠ []) ∧ a.s.i ≤ (grN a1).r.length ∧ a.s.b.length = (grN a1).g.length ∧ (∀ (j
 : Nat), j < (grN a1).g.length → gD a.s.b j = inG a.c.gr (↑j : Int)) ∧ a.s.sum = grpV a.c.gr (grTr a1) ∧ (a.s.o = sumN a.s.i fun (i : Nat) => ovF (goN a1 a.c i) (gD (grTr a1).f i)) ∧ (a.s.l = sumN a.s.i fun (i : Nat) =>
 loF (goN a1 a.c i) (gD (grN a1).r i).sp) ∧ a.s.h = sumN a.s.i fun (i : Nat) => hiF (goN a1 a.c i) (gD (grN a1).r i).sp
abbrev z6_136 (a : GOC) (a1 : BB) : Prop := z6_135 a a1 ∧ a.s.i = (0 : Nat)
abbrev z6_137 (a : BB) (a1 : GOC) (a2 : GOC) : Prop := z6_39 a ∧ z6_40 a ∧ z6_41 a ∧ z6_42 a ∧ z6_43 a ∧ z6_44 a ∧ z6_45 a ∧ z6_46 a ∧ z6_39 a ∧ (∀ (i : Nat), i < (grN a).g.length → gD a1.s.b i = gD a2.s.b i) ∧ (grpT
 (NGr.mk (grN a) a1.c.gr)).lo = (grpT (NGr.mk (grN a) a2.c.gr)).lo ∧ (grpT (NGr.mk (grN a) a1.c.gr)).hi = (grpT (NGr.mk (grN a) a2.c.gr)).hi
abbrev z6_138 (a : GOC) (a1 : BB) : Prop := (↑a.s.i : Int) < (↑(grN a1).r.length : Int)
abbrev z6_139 (a : GOC) : Prop := (0 : Int) ≤ (↑a.s.i : Int)
abbrev z6_140 (a : BB) (a1 : GOC) : Int := (gD (grN a).r a1.s.i).fr
abbrev z6_141 (a : BB) (a1 : GOC) : Prop := (0 : Int) ≤ z6_140 a a1 ∧ z6_140 a a1 < (↑(grN a).g.length : Int)
abbrev z6_142 (a : BB) (a1 : GOC) : Nat := (0 : Nat) + (z6_140 a a1).toNat
abbrev z6_143 (a : BB) (a1 : GOC) : Prop := z6_142 a a1 < (grN a).g.length
abbrev z6_144 (a : GOC) (a1 : BB) : Bool := gD a.s.b (z6_142 a1 a)
abbrev z6_145 (a : GOC) (a1 : BB) : Prop := z6_144 a a1 = true
abbrev z6_146 (a : BB) (a1 : GOC) : Int := (gD (grN a).r a1.s.i).to
abbrev z6_147 (a : BB) (a1 : GOC) : Prop := (0 : Int) ≤ z6_146 a a1 ∧ z6_146 a a1 < (↑(grN a).g.length : Int)
abbrev z6_148 (a : BB) (a1 : GOC) : Nat := (0 : Nat) + (z6_146 a a1).toNat
abbrev z6_149 (a : BB) (a1 : GOC) : Prop := (z6_148 a a1).succ.le (grN a).g.length
abbrev z6_150 (a : GOC) (a1 : BB) : Bool := gD a.s.b (z6_148 a1 a)
abbrev z6_151 (a : GOC) (a1 : BB) : Prop := z6_139 a ∧ (↑a.s.i : Int) < (↑(grTr a1).f.length : Int)
abbrev z6_152 (a : GOC) (a1 : BB) : Bool := !z6_144 a a1
abbrev z6_153 (a : GOC) (a1 : BB) : Prop := z6_152 a a1 = true
abbrev z6_154 (a : BB) (a1 : GOC) : Prop := z6_141 a a1 ∧ z6_143 a a1 ∧ (z6_153 a1 a → z6_147 a a1) ∧ (z6_153 a1 a → z6_149 a a1)
abbrev z6_155 (a : GOC) (a1 : BB) : Bool := bif z6_152 a a1 then z6_150 a a1 else false
abbrev z6_156 (a : GOC) (a1 : BB) : Int := IntKind.i64.wrap (a.s.o + gD (grTr a1).f a.s.i)
abbrev z6_157 (a : BB) (a1 : GOC) : Span := (gD (grN a).r a1.s.i).sp
abbrev z6_158 (a : BB) (a1 : GOC) : Int := (z6_157 a a1).lo
abbrev z6_159 (a : GOC) (a1 : BB) : Int := IntKind.i64.wrap (a.s.l + z6_158 a1 a)
abbrev z6_160 (a : BB) (a1 : GOC) : Int := (z6_157 a a1).hi
abbrev z6_161 (a : GOC) (a1 : BB) : Int := IntKind.i64.wrap (a.s.h + z6_160 a1 a)
abbrev z6_162 (a : GOC) (a1 : GOC) (a2 : BB) : Prop := (↑a.s.i : Int) = IntKind.i64.wrap ((↑a1.s.i : Int) + (1 : Int)) ∧ z6_137 a2 a a1
abbrev z6_163 (a : BB) (a1 : GOC) : Nat := (grN a).r.length - a1.s.i
abbrev z6_164 (a : GOC) (a1 : BB) (a2 : GOC) : Prop := z6_135 a a1 ∧ z6_163 a1 a < z6_163 a1 a2
theorem vc6 (a : BB) : (V6 a) = ((z6_1 a = a.a.length ∧ (∀ (i : Nat), i < z6_1 a → z6_2 a i = gD a.a i) ∧ (6 : Int) = Int.ofNat (6 : Nat) ∧ z6_4 a = z6_1 a ∧ (∀ (i : Nat), i < z6_4 a → gD (z6_3 a) i = z6_2 a i) ∧ z6_5 ∧
 z6_5 ∧ StmB (1000000000 : Int) (z6_6 a) ∧ (1 : Int) ≤ (6 : Int) ∧ (6 : Int) ≤ (8 : Int)) ∧ (z6_8 a = a.b.length ∧ ∀ (i : Nat), i < z6_8 a → z6_9 a i = gD a.b i) ∧ ((∃ (a_1 : GA), (z6_10 ∧ z6_11 ∧ z6_10 ∧ z6_11 ∧ z6_10 ∧
 z6_11 ∧ z6_12 ∧ (↑a_1.v : Int) = (0 : Int) ∧ (grN a).g.length = (z6_15 a).length ∧ (∀ (i : Nat), i < (grN a).g.length → (gD (grN a).g i).lo = (z6_16 a i).lo ∧ (gD (grN a).g i).hi = (z6_16 a i).hi) ∧ (grN a).r.length =
 (z6_17 a).length ∧ (∀ (i : Nat), i < (grN a).r.length → (gD (grN a).r i).fr = (z6_18 a i).fr ∧ (gD (grN a).r i).to = (z6_18 a i).to ∧ (gD (grN a).r i).sp.lo = (z6_19 a i).lo ∧ (gD (grN a).r i).sp.hi = (z6_19 a i).hi) ∧
 (grTr a).f.length = (z6_21 a).length ∧ (∀ (i : Nat), i < (grTr a).f.length → gD (grTr a).f i = gD (z6_21 a) i) ∧ (grTr a).t.length = (z6_22 a).length ∧ (∀ (i : Nat), i < (grTr a).t.length → gD (grTr a).t i = gD (z6_22 a)
 i) ∧ a_1.s.bs.length = z6_8 a ∧ (∀ (i : Nat), i < a_1.s.bs.length → gD a_1.s.bs i = z6_9 a i) ∧ a_1.s.used = (0 : Int) ∧ a_1.s.mix = (0 : Int)) ∧ z6_25 a_1 a) ∧ (∀ (a_1 : GA), z6_25 a_1 a → bif z6_26 a_1 a then z6_30 ∧
 z6_33 a_1 ∧ bif z6_35 a_1 then z6_30 ∧ ∃ (a_3 : GA), (z6_10 ∧ z6_36 a_3 ∧ z6_10 ∧ z6_37 a_3 ∧ z6_10 ∧ z6_11 ∧ z6_12 ∧ z6_38 a_3 a_1 ∧ z6_39 a ∧ z6_40 a ∧ z6_41 a ∧ z6_42 a ∧ z6_43 a ∧ z6_44 a ∧ z6_45 a ∧ z6_46 a ∧ z6_49
 a_3 a_1 ∧ z6_50 a_3 a_1 ∧ z6_51 a_3 a_1 ∧ z6_52 a_3 a_1 ∧ z6_36 a_3 ∧ z6_53 a_3 a_1 ∧ z6_37 a_3 ∧ z6_54 a_3 a_1) ∧ z6_59 a_3 a a_1 else z6_30 ∧ ∃ (a_3 : GA), (z6_10 ∧ z6_36 a_3 ∧ z6_10 ∧ z6_11 ∧ z6_10 ∧ z6_60 a_3 ∧ z6_12
 ∧ z6_38 a_3 a_1 ∧ z6_39 a ∧ z6_40 a ∧ z6_41 a ∧ z6_42 a ∧ z6_43 a ∧ z6_44 a ∧ z6_45 a ∧ z6_46 a ∧ z6_49 a_3 a_1 ∧ z6_50 a_3 a_1 ∧ z6_51 a_3 a_1 ∧ z6_52 a_3 a_1 ∧ z6_36 a_3 ∧ z6_53 a_3 a_1 ∧ z6_61 a_3 a_1) ∧ z6_63 a_3 a
 a_1 else ∃ (a_3 : GA), (z6_64 a_3 ∧ z6_64 a_3 ∧ z6_65 a_3 ∧ z6_65 a_3 ∧ z6_68 a_3 a) ∧ z6_69 a_3 a) ∧ (∀ (a_1 : GA), z6_56 a_1 a → bif z6_26 a_1 a then z6_72 a_1 ∧ z6_33 a_1 ∧ bif z6_35 a_1 then z6_74 a_1 ∧ ∃ (a_3 : GA),
 (z6_10 ∧ z6_75 a_3 a_1 ∧ z6_10 ∧ z6_76 a_3 a_1 ∧ z6_10 ∧ z6_11 ∧ z6_12 ∧ z6_38 a_3 a_1 ∧ z6_39 a ∧ z6_40 a ∧ z6_41 a ∧ z6_42 a ∧ z6_43 a ∧ z6_44 a ∧ z6_45 a ∧ z6_46 a ∧ z6_49 a_3 a_1 ∧ z6_50 a_3 a_1 ∧ z6_51 a_3 a_1 ∧
 z6_52 a_3 a_1 ∧ z6_75 a_3 a_1 ∧ z6_77 a_3 a_1 ∧ z6_76 a_3 a_1 ∧ z6_78 a_3 a_1) ∧ z6_59 a_3 a a_1 else z6_30 ∧ ∃ (a_3 : GA), (z6_10 ∧ z6_75 a_3 a_1 ∧ z6_10 ∧ z6_79 a_3 a_1 ∧ z6_10 ∧ z6_60 a_3 ∧ z6_12 ∧ z6_38 a_3 a_1 ∧
 z6_39 a ∧ z6_40 a ∧ z6_41 a ∧ z6_42 a ∧ z6_43 a ∧ z6_44 a ∧ z6_45 a ∧ z6_46 a ∧ z6_49 a_3 a_1 ∧ z6_50 a_3 a_1 ∧ z6_51 a_3 a_1 ∧ z6_52 a_3 a_1 ∧ z6_75 a_3 a_1 ∧ z6_77 a_3 a_1 ∧ z6_79 a_3 a_1 ∧ z6_80 a_3 a_1 ∧ z6_61 a_3
 a_1) ∧ z6_81 a_3 a ∧ z6_83 a a_3 < z6_57 a a_1 else ∃ (a_3 : GA), (z6_84 a_3 a_1 ∧ z6_85 a_1 ∧ z6_87 a_3 a_1 ∧ z6_79 a_3 a_1 ∧ z6_88 a_1 ∧ z6_89 a_3 a_1 ∧ z6_68 a_3 a) ∧ z6_69 a_3 a) ∧ (∀ (a_1 : GA), z6_62 a_1 a → bif
 z6_26 a_1 a then z6_72 a_1 ∧ z6_33 a_1 ∧ bif z6_35 a_1 then z6_30 ∧ ∃ (a_3 : GA), (z6_10 ∧ z6_75 a_3 a_1 ∧ z6_10 ∧ z6_37 a_3 ∧ z6_10 ∧ z6_90 a_3 a_1 ∧ z6_12 ∧ z6_38 a_3 a_1 ∧ z6_39 a ∧ z6_40 a ∧ z6_41 a ∧ z6_42 a ∧ z6_43
 a ∧ z6_44 a ∧ z6_45 a ∧ z6_46 a ∧ z6_49 a_3 a_1 ∧ z6_50 a_3 a_1 ∧ z6_51 a_3 a_1 ∧ z6_52 a_3 a_1 ∧ z6_75 a_3 a_1 ∧ z6_77 a_3 a_1 ∧ z6_37 a_3 ∧ z6_54 a_3 a_1 ∧ z6_91 a_3 a_1) ∧ z6_81 a_3 a ∧ z6_92 a a_3 < z6_57 a a_1 else
 z6_94 a_1 ∧ ∃ (a_3 : GA), (z6_10 ∧ z6_75 a_3 a_1 ∧ z6_10 ∧ z6_11 ∧ z6_10 ∧ z6_95 a_3 a_1 ∧ z6_12 ∧ z6_38 a_3 a_1 ∧ z6_39 a ∧ z6_40 a ∧ z6_41 a ∧ z6_42 a ∧ z6_43 a ∧ z6_44 a ∧ z6_45 a ∧ z6_46 a ∧ z6_49 a_3 a_1 ∧ z6_50 a_3
 a_1 ∧ z6_51 a_3 a_1 ∧ z6_52 a_3 a_1 ∧ z6_75 a_3 a_1 ∧ z6_77 a_3 a_1 ∧ z6_96 a_3 a_1) ∧ z6_63 a_3 a a_1 else ∃ (a_3 : GA), (z6_84 a_3 a_1 ∧ z6_85 a_1 ∧ z6_87 a_3 a_1 ∧ z6_65 a_3 ∧ z6_65 a_3 ∧ z6_97 a_3 a_1 a) ∧ z6_69 a_3
 a) ∧ (∀ (a_1 : GA), z6_81 a_1 a → bif z6_26 a_1 a then z6_72 a_1 ∧ z6_33 a_1 ∧ bif z6_35 a_1 then z6_74 a_1 ∧ ∃ (a_3 : GA), z6_98 a_3 a_1 a ∧ z6_81 a_3 a ∧ z6_92 a a_3 < z6_92 a a_1 else z6_94 a_1 ∧ ∃ (a_3 : GA), z6_99
 a_3 a_1 a ∧ z6_81 a_3 a ∧ z6_83 a a_3 < z6_92 a a_1 else z6_100 a_1 a) ∧ ∀ (a_1 : GA), z6_81 a_1 a → bif z6_26 a_1 a then z6_72 a_1 ∧ z6_33 a_1 ∧ bif z6_35 a_1 then z6_74 a_1 ∧ ∃ (a_3 : GA), z6_98 a_3 a_1 a ∧ z6_81 a_3 a
 ∧ z6_92 a a_3 < z6_83 a a_1 else z6_94 a_1 ∧ ∃ (a_3 : GA), z6_99 a_3 a_1 a ∧ z6_81 a_3 a ∧ z6_83 a a_3 < z6_83 a a_1 else z6_100 a_1 a) ∧ ∀ (a_1 : GA), z6_69 a_1 a → (z6_103 a ∧ z6_105 a ∧ z6_108 a ∧ z6_111 a ∧ z6_113
 a_1 = a_1.all.length ∧ (∀ (i : Nat), i < z6_113 a_1 → gD (z6_112 a_1) i = gD a_1.all i) ∧ (z6_113 a_1).le (1000000 : Nat)) ∧ bif bif grpE (z6_115 a a_1) != (0 : Int) then true else !((z6_116 a a_1).lo == (0 : Int) &&
 ((z6_116 a a_1).hi == (0 : Int) && true)) then true = false else bif bif (↑a_1.gr.length : Int) == (0 : Int) then true else (↑a_1.ot.length : Int) == (0 : Int) then true = true else ((0 : Int) ≤ (↑(grN a).g.length : Int)
 ∧ (↑(grN a).g.length : Int) = (↑(grN a).g.length : Int) ∧ (↑(grN a).g.length : Int) ≤ (9223372036854775807 : Int) ∧ (↑(1 : Nat) : Int) * (↑(grN a).g.length : Int) ≤ (281474976710656 : Int)) ∧ (∃ (a_3 : GBC),
 (a_3.c.gr.length = a_1.gr.length ∧ (∀ (i : Nat), i < a_3.c.gr.length → gD a_3.c.gr i = gD a_1.gr i) ∧ a_3.c.ot.length = a_1.ot.length ∧ (∀ (i : Nat), i < a_3.c.ot.length → gD a_3.c.ot i = gD a_1.ot i) ∧ a_3.s.sum = (0 :
 Int) ∧ z6_10 ∧ z6_39 a ∧ (↑a_3.s.i : Int) = (0 : Int) ∧ z6_39 a ∧ z6_40 a ∧ z6_41 a ∧ z6_42 a ∧ z6_43 a ∧ z6_44 a ∧ z6_45 a ∧ z6_46 a ∧ z6_39 a ∧ ∀ (i : Nat), i < (grN a).g.length → gD a_3.s.b i = false) ∧ z6_118 a_3 a)
 ∧ ∀ (a_3 : GBC), z6_118 a_3 a → bif decide (z6_119 a_3) then (z6_120 a_3 ∧ (z6_121 a_3 ∧ gD a_3.c.gr a_3.s.i < (↑(grN a).g.length : Int)) ∧ (z6_123 a_3).succ.le (grN a).g.length) ∧ (z6_120 a_3 ∧ z6_121 a_3 ∧ gD a_3.c.gr
 a_3.s.i < (↑(grTr a).t.length : Int)) ∧ ∃ (a_5 : GBC), (a_5.c.gr.length = a_3.c.gr.length ∧ (∀ (i : Nat), i < a_5.c.gr.length → gD a_5.c.gr i = gD a_3.c.gr i) ∧ a_5.c.ot.length = a_3.c.ot.length ∧ (∀ (i : Nat), i <
 a_5.c.ot.length → gD a_5.c.ot i = gD a_3.c.ot i) ∧ a_5.s.sum = IntKind.i64.wrap (a_3.s.sum + gD (grTr a).t (z6_122 a_3)) ∧ z6_10 ∧ z6_39 a ∧ (↑a_5.s.i : Int) = IntKind.i64.wrap ((↑a_3.s.i : Int) + (1 : Int)) ∧ z6_39 a ∧
 z6_40 a ∧ z6_41 a ∧ z6_42 a ∧ z6_43 a ∧ z6_44 a ∧ z6_45 a ∧ z6_46 a ∧ z6_39 a ∧ ∀ (i : Nat), i < (grN a).g.length → gD a_5.s.b i = bif decide (i = z6_123 a_3) then true else gD a_3.s.b i) ∧ z6_118 a_5 a ∧ z6_124 a_5 <
 z6_124 a_3 else (z6_103 a ∧ z6_105 a ∧ z6_108 a ∧ z6_111 a ∧ z6_126 a_3 = a_3.c.gr.length ∧ (∀ (i : Nat), i < z6_126 a_3 → gD (z6_125 a_3) i = gD a_3.c.gr i) ∧ (z6_126 a_3).le (1000000 : Nat)) ∧ (z6_103 a ∧ z6_105 a ∧
 z6_108 a ∧ z6_111 a ∧ z6_128 a_3 = a_3.c.ot.length ∧ (∀ (i : Nat), i < z6_128 a_3 → gD (z6_127 a_3) i = gD a_3.c.ot i) ∧ (z6_128 a_3).le (1000000 : Nat)) ∧ (bif bif bif bif bif grpE (z6_129 a a_3) != (0 : Int) then true
 else grpE (z6_130 a a_3) != (0 : Int) then true else !(z6_132 a a_3 == IntKind.i64.wrap ((0 : Int) - (z6_133 a a_3).hi) && (z6_134 a a_3 == IntKind.i64.wrap ((0 : Int) - (z6_133 a a_3).lo) && true)) then true else decide
 (a_3.s.sum < z6_132 a a_3) then true else decide (a_3.s.sum > z6_134 a a_3) then true = false else ∃ (a_5 : GOC), (a_5.s.sum = a_3.s.sum ∧ z6_10 ∧ z6_39 a ∧ z6_39 a ∧ z6_40 a ∧ z6_41 a ∧ z6_42 a ∧ z6_43 a ∧ z6_44 a ∧
 z6_45 a ∧ z6_46 a ∧ z6_39 a ∧ (∀ (i : Nat), i < (grN a).g.length → gD a_5.s.b i = gD a_3.s.b i) ∧ (grpT (NGr.mk (grN a) a_5.c.gr)).lo = z6_132 a a_3 ∧ (grpT (NGr.mk (grN a) a_5.c.gr)).hi = z6_134 a a_3) ∧ z6_136 a_5 a) ∧
 ∀ (a_5 : GOC), z6_136 a_5 a → (∃ (a_7 : GOC), (a_7.s.sum = a_5.s.sum ∧ z6_10 ∧ z6_39 a ∧ a_7.s.o = (0 : Int) ∧ a_7.s.l = (0 : Int) ∧ a_7.s.h = (0 : Int) ∧ (↑a_7.s.i : Int) = (0 : Int) ∧ z6_137 a a_7 a_5) ∧ z6_135 a_7 a)
 ∧ ∀ (a_7 : GOC), z6_135 a_7 a → bif decide (z6_138 a_7 a) then (z6_139 a_7 ∧ z6_138 a_7 a) ∧ (z6_141 a a_7 ∧ z6_143 a a_7 ∧ (z6_145 a_7 a → z6_147 a a_7) ∧ (z6_145 a_7 a → z6_149 a a_7)) ∧ bif bif z6_144 a_7 a then
 !z6_150 a_7 a else false then z6_151 a_7 a ∧ z6_154 a a_7 ∧ bif z6_155 a_7 a then z6_151 a_7 a ∧ ∃ (a_9 : GOC), (a_9.s.sum = a_7.s.sum ∧ z6_10 ∧ z6_39 a ∧ a_9.s.o = IntKind.i64.wrap (z6_156 a_7 a - gD (grTr a).f a_7.s.i)
 ∧ a_9.s.l = IntKind.i64.wrap (z6_159 a_7 a - z6_160 a a_7) ∧ a_9.s.h = IntKind.i64.wrap (z6_161 a_7 a - z6_158 a a_7) ∧ z6_162 a_9 a_7 a) ∧ z6_164 a_9 a a_7 else ∃ (a_9 : GOC), (a_9.s.sum = a_7.s.sum ∧ z6_10 ∧ z6_39 a ∧
 a_9.s.o = z6_156 a_7 a ∧ a_9.s.l = z6_159 a_7 a ∧ a_9.s.h = z6_161 a_7 a ∧ z6_162 a_9 a_7 a) ∧ z6_164 a_9 a a_7 else z6_154 a a_7 ∧ bif z6_155 a_7 a then z6_151 a_7 a ∧ ∃ (a_9 : GOC), (a_9.s.sum = a_7.s.sum ∧ z6_10 ∧
 z6_39 a ∧ a_9.s.o = IntKind.i64.wrap (a_7.s.o - gD (grTr a).f a_7.s.i) ∧ a_9.s.l = IntKind.i64.wrap (a_7.s.l - z6_160 a a_7) ∧ a_9.s.h = IntKind.i64.wrap (a_7.s.h - z6_158 a a_7) ∧ z6_162 a_9 a_7 a) ∧ z6_164 a_9 a a_7
 else ∃ (a_9 : GOC), (a_9.s.sum = a_7.s.sum ∧ z6_10 ∧ z6_39 a ∧ a_9.s.o = a_7.s.o ∧ a_9.s.l = a_7.s.l ∧ a_9.s.h = a_7.s.h ∧ z6_162 a_9 a_7 a) ∧ z6_164 a_9 a a_7 else true = bif bif bif a_7.s.o == a_7.s.sum then decide
 ((grpT (NGr.mk (grN a) a_7.c.gr)).lo ≥ a_7.s.l) else false then decide ((grpT (NGr.mk (grN a) a_7.c.gr)).hi ≤ a_7.s.h) else false then true else false) := by kernel_rfl
theorem ga3_meas (a : BB) (l : List (Nat × Nat)) (s : GA) : (ga3 a l).meas s = (grN a).g.length - s.v := rfl
theorem gr1 (a : BB) : madeN (SN.mk (Stm.mk a.a 0 0) 6) = grN a := rfl
theorem gr2 (a : BB) : madeTr (SN.mk (Stm.mk a.a 0 0) 6) = grTr a := rfl
def gaGo (s : GA) (b : Bool) : GA := ⟨nextS s.s 2, s.all ++ [(s.v : Int)], bif b then s.gr ++ [(s.v : Int)] else s.gr, bif b then s.ot else s.ot ++ [(s.v : Int)], s.v + 1⟩
theorem gD_snoc {α : Type} [Inhabited α] (l : List α) (x : α) {i : Nat} (hi : i < l.length + 1) : gD (l ++ [x]) i = bif decide (i < l.length) then gD l i else x := by
  rw [gD_append]
  by_cases h : i < l.length
  · simp [h]
  · have : i - l.length = 0 := by omega
    simp only [h, if_false, decide_false, cond_false, this]; rfl
theorem Part.mono {v : Nat} {l : List Int} (h : Part v l) : Part (v + 1) l := ⟨fun x hx => by have := h.1 x hx; omega, h.2⟩
theorem Part.snoc {v : Nat} {l : List Int} (h : Part v l) : Part (v + 1) (l ++ [(v : Int)]) := by
  refine ⟨fun x hx => ?_, ?_⟩
  · rcases List.mem_append.1 hx with hx | hx
    · have := h.1 x hx; omega
    · have : x = v := by simpa using hx
      omega
  · rw [List.pairwise_append]
    exact ⟨h.2, by simp, fun x hx y hy => by have e : y = v := by simpa using hy
                                             have := h.1 x hx; omega⟩
theorem Part.none {v : Nat} {l : List Int} (h : Part v l) : (v : Int) ∉ l := fun hm => by have := h.1 _ hm; omega
theorem ga_go {a : BB} {s : GA} (h : gaInv a s) (hv : s.v < (grN a).g.length) (hb : (grN a).g.length ≤ 8) (b : Bool) : gaInv a (gaGo s b) := by
  obtain ⟨q1, q2, q3, q4, q5, q6, q7⟩ := h
  refine ⟨hv, (q2.next (by omega) 2).mono (by simp only [gaGo]; omega), by simp [gaGo, q3], fun i hi => ?_, ?_, ?_, fun j hj => ?_⟩
  · show gD (s.all ++ [(s.v : Int)]) i = i
    have hi : i < s.v + 1 := hi
    rw [gD_snoc _ _ (by omega)]
    by_cases h : i < s.all.length
    · rw [decide_eq_true h]; exact q4 i (by omega)
    · rw [decide_eq_false h, show i = s.v by omega]; rfl
  · cases b
    · exact q5.mono
    · exact q5.snoc
  · cases b
    · exact q6.snoc
    · exact q6.mono
  · have hj : j < s.v + 1 := hj
    by_cases he : j = s.v
    · subst he
      have n1 := q5.none
      have n2 := q6.none
      cases b
      · show ((s.v : Int) ∈ s.ot ++ [(s.v : Int)] ↔ (s.v : Int) ∉ s.gr); simp [n1]
      · show ((s.v : Int) ∈ s.ot ↔ (s.v : Int) ∉ s.gr ++ [(s.v : Int)]); simp [n2]
    · have h7 := q7 j (by omega)
      have hne : ¬ (j : Int) = s.v := by omega
      cases b
      · show ((j : Int) ∈ s.ot ++ [(s.v : Int)] ↔ (j : Int) ∉ s.gr); simp [hne, h7]
      · show ((j : Int) ∈ s.ot ↔ (j : Int) ∉ s.gr ++ [(s.v : Int)]); simp [hne, h7]
theorem take_snoc {l : List Int} {i : Nat} (h : i < l.length) : l.take (i + 1) = l.take i ++ [gD l i] := by
  rw [List.take_add_one]; simp [gD, List.getD_eq_getElem?_getD, h]
theorem grp_vals {N : NetL} {T : TruthL} (hC : Can N T) {st : List Int} (h : Part N.g.length st) (hne : st ≠ []) : grpE ⟨N, st⟩ = 0 ∧ grpT ⟨N, st⟩ = grpS ⟨N, st⟩ ∧ st.length ≤ 8 ∧ ((grpS ⟨N, st⟩).lo ≤ grpV st T ∧ grpV st T ≤ (grpS ⟨N, st⟩).hi) ∧ -8000000 ≤ (grpS ⟨N, st⟩).lo ∧ (grpS ⟨N, st⟩).hi ≤ 8000000 ∧ (grpS ⟨N, st⟩).lo ≤ (grpS ⟨N, st⟩).hi := by
  obtain ⟨n1, n2, _⟩ := net_vals hC
  have hg := good_of n1
  have g8 := hg.g8
  have hs : Grp N.g.length st := ⟨h.1, h.2⟩
  have hb := (grp_of ⟨hg.g1, g8⟩).2 hs
  have hl : st.length ≠ 0 := fun h => hne (List.eq_nil_of_length_eq_zero h)
  have hE : grpE ⟨N, st⟩ = 0 := grpE_zero.2 ⟨n1, hb, hl, n2⟩
  obtain ⟨_, hS⟩ := group_span n1 n2 hb
  have hlen := grp_len hs
  have bd : ∀ T, Can N T → -8000000 ≤ grpV st T ∧ grpV st T ≤ 8000000 := fun T hT => grpV_bd hs g8 fun j hj => by
    have h1 := ((can_iff n1).1 hT).2.2.1 j hj
    have := hg.g j hj
    omega
  obtain ⟨T1, c1, e1⟩ := hS.lo
  obtain ⟨T2, c2, e2⟩ := hS.hi
  have b1 := bd T1 c1
  have b2 := bd T2 c2
  exact ⟨hE, by unfold grpT; rw [if_pos hE], by omega, hS.all T hC, by omega, by omega, hS.le⟩
theorem side_b {b : List Bool} {f : Int → Bool} {n : Nat} (h : ∀ j : Nat, j < n → gD b j = f (j : Int)) {x : Int} (h0 : 0 ≤ x ∧ x < n) : gD b x.toNat = f x := by
  have := h x.toNat (by omega)
  rwa [show ((x.toNat : Nat) : Int) = x by omega] at this
set_option maxHeartbeats 1000000 in
theorem p6 (a : BB) (h1 : ByOk a.a) (h2 : ByOk a.b) : V6 a := by
  have hm : Made (grN a) (grTr a) 6 := mk_ok h1 (by omega)
  have hC := hm.can (by omega)
  obtain ⟨n1, n2, _⟩ := net_vals hC
  have hg := good_of n1
  have gm := hm.gm
  have g1 := hm.g1
  have r11 := hm.r11
  have fl := hm.fl
  have tl := hm.tl
  have st1 := stm0 h1
  have st2 := stm0 h2
  rw [vc6]; delta z6_0 z6_1 z6_2 z6_3 z6_4 z6_5 z6_6 z6_7 z6_8 z6_9 z6_10 z6_11 z6_12 z6_13 z6_14 z6_15 z6_16 z6_17 z6_18 z6_19 z6_20 z6_21 z6_22 z6_23 z6_24 z6_25 z6_26 z6_27 z6_28 z6_29 z6_30 z6_31 z6_32 z6_33 z6_34 z6_35 z6_36 z6_37 z6_38 z6_39 z6_40 z6_41 z6_42 z6_43 z6_44 z6_45 z6_46 z6_47 z6_48 z6_49 z6_50 z6_51 z6_52 z6_53 z6_54 z6_55 z6_56 z6_57 z6_58 z6_59 z6_60 z6_61 z6_62 z6_63 z6_64 z6_65 z6_66 z6_67 z6_68 z6_69 z6_70 z6_71 z6_72 z6_73 z6_74 z6_75 z6_76 z6_77 z6_78 z6_79 z6_80 z6_81 z6_82 z6_83 z6_84 z6_85 z6_86 z6_87 z6_88 z6_89 z6_90 z6_91 z6_92 z6_93 z6_94 z6_95 z6_96 z6_97 z6_98 z6_99 z6_100 z6_101 z6_102 z6_103 z6_104 z6_105 z6_106 z6_107 z6_108 z6_109 z6_110 z6_111 z6_112 z6_113 z6_114 z6_115 z6_116 z6_117 z6_118 z6_119 z6_120 z6_121 z6_122 z6_123 z6_124 z6_125 z6_126 z6_127 z6_128 z6_129 z6_130 z6_131 z6_132 z6_133 z6_134 z6_135 z6_136 z6_137 z6_138 z6_139 z6_140 z6_141 z6_142 z6_143 z6_144 z6_145 z6_146 z6_147 z6_148 z6_149 z6_150 z6_151 z6_152 z6_153 z6_154 z6_155 z6_156 z6_157 z6_158 z6_159 z6_160 z6_161 z6_162 z6_163 z6_164; simp only [condP, eq_self, implies_true, and_self, true_and, and_true, true_implies, forall_const, decide_eq_true_eq, decide_eq_false_iff_not, Int.toNat_natCast, dSpan_eSpan, dReach_eReach, dWay_eWay, dStep_eStep, dFar_eFar, dInt_eInt, Nat.zero_add, Int.zero_sub, Nat.le_eq, Nat.succ_eq_add_one, Nat.add_one_le_iff, Bool.not_eq_true', Bool.not_eq_false', rng_length, dSpan_mk, dReach_mk, dWay_mk, dStep_mk, dFar_mk, rng_getD, DL.m2, DL.d1, DL.d2, DL.d7, DL.d8, gr1, gr2, ga3_meas]
  refine ⟨⟨rfl, st1.mono (by omega), by omega, by omega⟩, ⟨⟨⟨⟨a.b, 0, 0⟩, [], [], [], 0⟩, ⟨rfl, rfl, fun _ _ => rfl, rfl, rfl⟩, ⟨Nat.zero_le _, st2.mono (by simp only; omega), rfl, fun i hi => (by cases hi), ⟨fun x hx => (by cases hx), List.Pairwise.nil⟩, ⟨fun x hx => (by cases hx), List.Pairwise.nil⟩, fun j hj => (by cases hj)⟩, rfl⟩, ?S0, ?S1, ?S2, ?S3⟩, ?R⟩
  case S0 =>
    intro s ⟨h, hv0⟩
    have h : gaInv a s := h
    obtain ⟨q1, q2, q3, q4, q5, q6, q7⟩ := id h
    refine ⟨fun hlt => ?_, fun hge => by omega⟩
    have e1 : s.gr = [] := List.eq_nil_iff_forall_not_mem.2 fun x hx => by have := q5.1 x hx; omega
    have e2 : s.ot = [] := List.eq_nil_iff_forall_not_mem.2 fun x hx => by have := q6.1 x hx; omega
    have l0 : s.all.length = 0 := by omega
    have l1 : s.gr.length = 0 := by rw [e1]; rfl
    have l2 : s.ot.length = 0 := by rw [e2]; rfl
    have sn : ∀ (l : List Int) (i : Nat), l.length = 0 → i < (l ++ [(s.v : Int)]).length → gD (l ++ [(s.v : Int)]) i = s.v := fun l i hl hi => by
      rw [gD_snoc _ _ (by simpa using hi), decide_eq_false (by omega)]; rfl
    refine ⟨⟨by decide, by decide, by decide, by decide, by decide⟩, ⟨rfl, q2.used.1⟩, fun _ => ⟨⟨by decide, by decide, by decide, by decide, by decide⟩, gaGo s true, ⟨by simp [gaGo, l0], by simp [gaGo, l1], (wsucc (by omega)).symm, rfl, fun _ _ => rfl, rfl, rfl, by simp [gaGo, l0], fun i hi => sn _ i l0 hi, by simp [gaGo, l1], fun i hi => sn _ i l1 hi⟩, ⟨ga_go h (by omega) (by omega) true, Nat.succ_pos _, by simp [gaGo], e2⟩, by simp only [gaGo]; omega⟩, fun _ => ⟨⟨by decide, by decide, by decide, by decide, by decide⟩, gaGo s false, ⟨by simp [gaGo, l0], by simp [gaGo, l2], (wsucc (by omega)).symm, rfl, fun _ _ => rfl, rfl, rfl, by simp [gaGo, l0], fun i hi => sn _ i l0 hi, by simp [gaGo, l2], fun i hi => sn _ i l2 hi⟩, ⟨ga_go h (by omega) (by omega) false, Nat.succ_pos _, e1, by simp [gaGo]⟩, by simp only [gaGo]; omega⟩⟩
  case S1 =>
    intro s ⟨h, hv0, hg0, ho0⟩
    have h : gaInv a s := h
    obtain ⟨q1, q2, q3, q4, q5, q6, q7⟩ := id h
    have l2 : s.ot.length = 0 := by rw [ho0]; rfl
    have lg := grp_len (n := s.v) ⟨q5.1, q5.2⟩
    have sn : ∀ (l : List Int) (i : Nat), l.length = 0 → i < (l ++ [(s.v : Int)]).length → gD (l ++ [(s.v : Int)]) i = s.v := fun l i hl hi => by
      rw [gD_snoc _ _ (by simpa using hi), decide_eq_false (by omega)]; rfl
    refine ⟨fun hlt => ⟨⟨by decide, fun h => (by cases h), by omega, by omega⟩, ⟨rfl, q2.used.1⟩, fun _ => ⟨⟨by decide, fun h => (by cases h), by omega, by omega⟩, gaGo s true, ⟨by simp [gaGo], by simp [gaGo], (wsucc (by omega)).symm, rfl, fun _ _ => rfl, rfl, rfl, by simp [gaGo], fun i hi => gD_snoc _ _ (by simpa [gaGo] using hi), by simp [gaGo], fun i hi => gD_snoc _ _ (by simpa [gaGo] using hi)⟩, ⟨ga_go h (by omega) (by omega) true, Nat.succ_pos _, by simp [gaGo], ho0⟩, by simp only [gaGo]; omega⟩, fun _ => ⟨⟨by decide, by decide, by decide, by decide, by decide⟩, gaGo s false, ⟨by simp [gaGo], rfl, by simp [gaGo, l2], (wsucc (by omega)).symm, rfl, fun _ _ => rfl, rfl, rfl, by simp [gaGo], fun i hi => gD_snoc _ _ (by simpa [gaGo] using hi), rfl, fun _ _ => rfl, by simp [gaGo, l2], fun i hi => sn _ i l2 hi⟩, ⟨ga_go h (by omega) (by omega) false, Nat.succ_pos _, hg0, by simp [gaGo]⟩, by simp only [gaGo]; omega⟩⟩, fun hge => ⟨s, ⟨rfl, Nat.le_refl _, fun _ _ => rfl, rfl, Nat.le_refl _, fun _ _ => rfl, l2⟩, h, by omega⟩⟩
  case S2 =>
    intro s ⟨h, hv0, hg0, ho0⟩
    have h : gaInv a s := h
    obtain ⟨q1, q2, q3, q4, q5, q6, q7⟩ := id h
    have l1 : s.gr.length = 0 := by rw [hg0]; rfl
    have lo := grp_len (n := s.v) ⟨q6.1, q6.2⟩
    have sn : ∀ (l : List Int) (i : Nat), l.length = 0 → i < (l ++ [(s.v : Int)]).length → gD (l ++ [(s.v : Int)]) i = s.v := fun l i hl hi => by
      rw [gD_snoc _ _ (by simpa using hi), decide_eq_false (by omega)]; rfl
    refine ⟨fun hlt => ⟨⟨by decide, fun h => (by cases h), by omega, by omega⟩, ⟨rfl, q2.used.1⟩, fun _ => ⟨⟨by decide, by decide, by decide, by decide, by decide⟩, gaGo s true, ⟨by simp [gaGo], by simp [gaGo, l1], rfl, (wsucc (by omega)).symm, rfl, fun _ _ => rfl, rfl, rfl, by simp [gaGo], fun i hi => gD_snoc _ _ (by simpa [gaGo] using hi), by simp [gaGo, l1], fun i hi => sn _ i l1 hi, rfl, fun _ _ => rfl⟩, ⟨ga_go h (by omega) (by omega) true, Nat.succ_pos _, by simp [gaGo], ho0⟩, by simp only [gaGo]; omega⟩, fun _ => ⟨⟨by decide, fun h => (by cases h), by omega, by omega⟩, gaGo s false, ⟨by simp [gaGo], by simp [gaGo], (wsucc (by omega)).symm, rfl, fun _ _ => rfl, rfl, rfl, by simp [gaGo], fun i hi => gD_snoc _ _ (by simpa [gaGo] using hi), by simp [gaGo], fun i hi => gD_snoc _ _ (by simpa [gaGo] using hi)⟩, ⟨ga_go h (by omega) (by omega) false, Nat.succ_pos _, hg0, by simp [gaGo]⟩, by simp only [gaGo]; omega⟩⟩, fun hge => ⟨s, ⟨rfl, Nat.le_refl _, fun _ _ => rfl, l1, l1, rfl, Nat.le_refl _, fun _ _ => rfl⟩, h, by omega⟩⟩
  case S3 =>
    intro s ⟨h, hv0, hg0, ho0⟩
    have h : gaInv a s := h
    obtain ⟨q1, q2, q3, q4, q5, q6, q7⟩ := id h
    have lg := grp_len (n := s.v) ⟨q5.1, q5.2⟩
    have lo := grp_len (n := s.v) ⟨q6.1, q6.2⟩
    exact ⟨fun hlt => ⟨⟨by decide, fun h => (by cases h), by omega, by omega⟩, ⟨rfl, q2.used.1⟩, fun _ => ⟨⟨by decide, fun h => (by cases h), by omega, by omega⟩, gaGo s true, ⟨by simp [gaGo], by simp [gaGo], rfl, (wsucc (by omega)).symm, rfl, fun _ _ => rfl, rfl, rfl, by simp [gaGo], fun i hi => gD_snoc _ _ (by simpa [gaGo] using hi), by simp [gaGo], fun i hi => gD_snoc _ _ (by simpa [gaGo] using hi), rfl, fun _ _ => rfl⟩, ⟨ga_go h (by omega) (by omega) true, Nat.succ_pos _, by simp [gaGo], ho0⟩, by simp only [gaGo]; omega⟩, fun _ => ⟨⟨by decide, fun h => (by cases h), by omega, by omega⟩, gaGo s false, ⟨by simp [gaGo], rfl, by simp [gaGo], (wsucc (by omega)).symm, rfl, fun _ _ => rfl, rfl, rfl, by simp [gaGo], fun i hi => gD_snoc _ _ (by simpa [gaGo] using hi), rfl, fun _ _ => rfl, by simp [gaGo], fun i hi => gD_snoc _ _ (by simpa [gaGo] using hi)⟩, ⟨ga_go h (by omega) (by omega) false, Nat.succ_pos _, hg0, by simp [gaGo]⟩, by simp only [gaGo]; omega⟩⟩, fun hge => ⟨s, ⟨rfl, Nat.le_refl _, fun _ _ => rfl, rfl, Nat.le_refl _, fun _ _ => rfl, rfl, Nat.le_refl _, fun _ _ => rfl⟩, h, by omega⟩⟩
  case R =>
    intro s ⟨h, hv⟩
    have h : gaInv a s := h
    obtain ⟨q1, q2, q3, q4, q5, q6, q7⟩ := id h
    rw [hv] at q3 q4 q5 q6 q7
    have pall : Part (grN a).g.length s.all := ⟨fun x hx => by
      obtain ⟨i, hi, rfl⟩ := List.getElem_of_mem hx
      have e : gD s.all i = s.all[i] := by simp [gD, hi]
      rw [← e, q4 i (by omega)]; omega, by
      rw [List.pairwise_iff_getElem]
      intro i j hi hj hij
      have e1 : gD s.all i = s.all[i] := by simp [gD, hi]
      have e2 : gD s.all j = s.all[j] := by simp [gD, hj]
      rw [← e1, ← e2, q4 i (by omega), q4 j (by omega)]; omega⟩
    have hne : s.all ≠ [] := fun he => by rw [he] at q3; have : 0 = (grN a).g.length := q3; omega
    obtain ⟨a1, a2, a3, _⟩ := grp_vals hC pall hne
    have aall : grpS ⟨grN a, s.all⟩ = ⟨0, 0⟩ := grp_all n1 n2 ⟨pall.1, pall.2⟩ fun j hj => by
      rw [← q4 j hj]; exact gD_mem (by omega)
    rw [a1, a2, aall]
    refine ⟨by omega, fun h => (by cases h), fun _ hgo => ?_⟩
    have hg0 : s.gr ≠ [] := fun he => by rw [he] at hgo; cases hgo
    have ho0 : s.ot ≠ [] := fun he => by
      rw [he] at hgo
      revert hgo; cases (s.gr.length : Int) == 0 <;> intro h <;> cases h
    refine ⟨⟨by omega, by omega, by omega⟩, ⟨⟨⟨s.gr, s.ot⟩, ⟨List.replicate (grN a).g.length false, 0, 0⟩⟩, ⟨rfl, fun _ _ => rfl, rfl, fun _ _ => rfl, rfl, rfl, fun i hi => by show gD (List.replicate _ false) i = false; rw [gD_replicate, if_pos hi]⟩, ⟨q5, q6, q7, hg0, ho0⟩, Nat.zero_le _, by simp, fun j hj => by show gD (List.replicate _ false) j = _; rw [gD_replicate, if_pos hj]; simp, rfl⟩, fun x ⟨hx1, hx2, hx3, hx4, hx5⟩ => ⟨fun hlt => ?L1, fun hge => ?L2⟩⟩
    case L1 =>
      obtain ⟨p1, p2, p3, p4, p5⟩ := hx1
      have hi : x.s.i < x.c.gr.length := by omega
      have hmem := p1.1 _ (gD_mem hi)
      have hgt : Grp (grN a).g.length (x.c.gr.take x.s.i) := ⟨fun y hy => p1.1 y (List.mem_of_mem_take hy), p1.2.sublist (List.take_sublist _ _)⟩
      have hbd := grpV_bd (N := grN a) (T := grTr a) hgt (by omega) fun j hj => by have := (hm.t j hj).1; omega
      have htv := (hm.t (gD x.c.gr x.s.i).toNat (by omega)).1
      have hgl := grp_len (n := (grN a).g.length) ⟨p1.1, p1.2⟩
      refine ⟨⟨⟨by omega, by omega⟩, ⟨hmem.1, hmem.2⟩, by omega⟩, ⟨⟨by omega, by omega⟩, hmem.1, by omega⟩, ⟨x.c, ⟨x.s.b.set (gD x.c.gr x.s.i).toNat true, wr (x.s.sum + gD (grTr a).t (gD x.c.gr x.s.i).toNat), x.s.i + 1⟩⟩, ⟨rfl, fun _ _ => rfl, rfl, fun _ _ => rfl, rfl, (wsucc (by omega)).symm, fun i hi2 => ?_⟩, ⟨⟨p1, p2, p3, p4, p5⟩, by simp only; omega, by simp only [List.length_set]; omega, fun j hj => ?_, ?_⟩, by simp only; omega⟩
      · show gD (x.s.b.set _ true) i = _
        rw [gD_set (by omega)]
        by_cases he : i = (gD x.c.gr x.s.i).toNat
        · rw [if_pos he, decide_eq_true he]; rfl
        · rw [if_neg he, decide_eq_false he]; rfl
      · show gD (x.s.b.set _ true) j = decide ((j : Int) ∈ x.c.gr.take (x.s.i + 1))
        rw [gD_set (by omega), take_snoc hi, hx4 j hj]
        by_cases he : j = (gD x.c.gr x.s.i).toNat
        · rw [if_pos he]; exact (decide_eq_true (by rw [List.mem_append]; exact .inr (by simp; omega))).symm
        · rw [if_neg he]
          have hne : ¬ (j : Int) = gD x.c.gr x.s.i := by omega
          simp [hne]
      · show wr (x.s.sum + gD (grTr a).t (gD x.c.gr x.s.i).toNat) = grpV (x.c.gr.take (x.s.i + 1)) (grTr a)
        rw [take_snoc hi]
        unfold grpV at hx5 hbd ⊢
        rw [sumL_append, hx5]
        simp only [sumL]
        rw [Int.add_zero]
        exact w64 (by omega) (by omega)
    case L2 =>
      obtain ⟨p1, p2, p3, p4, p5⟩ := id hx1
      obtain ⟨g1, g2, g3, g4, g5, g6, g7⟩ := grp_vals hC p1 p4
      obtain ⟨o1, o2, o3, o4, o5, o6, o7⟩ := grp_vals hC p2 p5
      have hot := grp_others n1 n2 (st := x.c.gr) (ot := x.c.ot) ⟨p1.1, p1.2⟩ ⟨p2.1, p2.2⟩ p3
      have hi : x.s.i = x.c.gr.length := by omega
      rw [hi, List.take_length] at hx4 hx5
      have w1 : IntKind.i64.wrap (-(grpS ⟨grN a, x.c.ot⟩).hi) = -(grpS ⟨grN a, x.c.ot⟩).hi := w64 (by omega) (by omega)
      have w2 : IntKind.i64.wrap (-(grpS ⟨grN a, x.c.ot⟩).lo) = -(grpS ⟨grN a, x.c.ot⟩).lo := w64 (by omega) (by omega)
      have hl : (grpS ⟨grN a, x.c.gr⟩).lo = -(grpS ⟨grN a, x.c.ot⟩).hi := by rw [hot]
      have hh : (grpS ⟨grN a, x.c.gr⟩).hi = -(grpS ⟨grN a, x.c.ot⟩).lo := by rw [hot]
      refine ⟨by omega, by omega, ⟨fun h => ?_, fun _ => ⟨⟨x.c, ⟨x.s.b, x.s.sum, 0, 0, 0, 0⟩⟩, ⟨rfl, fun _ _ => rfl, rfl, rfl⟩, ⟨hx1, Nat.zero_le _, hx3, hx4, hx5, rfl, rfl, rfl⟩, rfl⟩⟩, fun y ⟨hy, hy0⟩ => ?_⟩
      · rw [g1, o1, g2, o2, w1, w2, ← hl, ← hh, decide_eq_false (show ¬ x.s.sum < (grpS ⟨grN a, x.c.gr⟩).lo by omega), decide_eq_false (show ¬ x.s.sum > (grpS ⟨grN a, x.c.gr⟩).hi by omega)] at h
        simp at h
      obtain ⟨r1, r2, r3, r4, r5, r6, r7, r8⟩ := hy
      rw [hy0] at r6 r7 r8
      refine ⟨⟨y, ⟨rfl, r6, r7, r8, by rw [hy0]; rfl, fun _ _ => rfl, rfl, rfl⟩, r1, r2, r3, r4, r5, by rw [hy0]; exact r6, by rw [hy0]; exact r7, by rw [hy0]; exact r8⟩, fun z hz => ?_⟩
      have hz : goInv a z := hz
      obtain ⟨t1, t2, t3, t4, t5, t6, t7, t8⟩ := id hz
      have sd := fun i => side_cases (inG z.c.gr) (gD (grN a).r i)
      refine ⟨fun hlt => ?L3, fun hge => ?L4⟩
      case L3 =>
        have hk : z.s.i < (grN a).r.length := by omega
        obtain ⟨⟨hf, ht, hne⟩, hv, hsp⟩ := hm.r z.s.i hk
        have bf := side_b t4 hf
        have bt := side_b t4 ht
        have b6 := sumN_bd (K := 128) (n := z.s.i) (f := fun i => ovF (goN a z.c i) (gD (grTr a).f i)) fun i hi => by
          have := (hm.r i (by omega)).2
          unfold ovF goN; rcases sd i with e | e | e <;> rw [e] <;> simp <;> omega
        have b7 := sumN_bd (K := 128) (n := z.s.i) (f := fun i => loF (goN a z.c i) (gD (grN a).r i).sp) fun i hi => by
          have := (hm.r i (by omega)).2
          unfold loF goN; rcases sd i with e | e | e <;> rw [e] <;> simp <;> omega
        have b8 := sumN_bd (K := 128) (n := z.s.i) (f := fun i => hiF (goN a z.c i) (gD (grN a).r i).sp) fun i hi => by
          have := (hm.r i (by omega)).2
          unfold hiF goN; rcases sd i with e | e | e <;> rw [e] <;> simp <;> omega
        rw [← t6] at b6
        rw [← t7] at b7
        rw [← t8] at b8
        have next : ∀ o l h : Int, o = z.s.o + ovF (goN a z.c z.s.i) (gD (grTr a).f z.s.i) → l = z.s.l + loF (goN a z.c z.s.i) (gD (grN a).r z.s.i).sp → h = z.s.h + hiF (goN a z.c z.s.i) (gD (grN a).r z.s.i).sp → goInv a ⟨z.c, ⟨z.s.b, z.s.sum, o, l, h, z.s.i + 1⟩⟩ := fun o l h e1 e2 e3 => ⟨t1, hk, t3, t4, t5, by show o = sumN z.s.i _ + _; rw [e1, t6], by show l = sumN z.s.i _ + _; rw [e2, t7], by show h = sumN z.s.i _ + _; rw [e3, t8]⟩
        rw [bf, bt]
        have gi : ∀ x : Int, gD (grN a).r z.s.i = gD (grN a).r z.s.i := fun _ => rfl
        refine ⟨⟨by omega, by omega⟩, ⟨⟨hf.1, hf.2⟩, by omega, fun _ => ⟨ht.1, ht.2⟩, fun _ => by omega⟩, fun c1 => ⟨⟨by omega, by omega⟩, ⟨⟨hf.1, hf.2⟩, by omega, fun _ => ⟨ht.1, ht.2⟩, fun _ => by omega⟩, fun c2 => ?_, fun c2 => ?_⟩, fun c1 => ⟨⟨⟨hf.1, hf.2⟩, by omega, fun _ => ⟨ht.1, ht.2⟩, fun _ => by omega⟩, fun c2 => ⟨⟨by omega, by omega⟩, ?_⟩, fun c2 => ?_⟩⟩
        · have := (and_b.1 c1).1
          rw [this] at c2; cases c2
        · obtain ⟨x1, x2⟩ := and_b.1 c1
          have x2 : inG z.c.gr (gD (grN a).r z.s.i).to = false := by simpa using x2
          have eq : goN a z.c z.s.i = 1 := by unfold goN sideB; rw [x1, x2]; rfl
          exact ⟨⟨z.c, ⟨z.s.b, z.s.sum, wr (z.s.o + gD (grTr a).f z.s.i), wr (z.s.l + (gD (grN a).r z.s.i).sp.lo), wr (z.s.h + (gD (grN a).r z.s.i).sp.hi), z.s.i + 1⟩⟩, ⟨rfl, rfl, rfl, rfl, (wsucc (by omega)).symm, fun _ _ => rfl, rfl, rfl⟩, next _ _ _ (by rw [eq]; exact w64 (by omega) (by omega)) (by rw [eq]; exact w64 (by omega) (by omega)) (by rw [eq]; exact w64 (by omega) (by omega)), by simp only; omega⟩
        · obtain ⟨x1, x2⟩ := and_b.1 c2
          have x1 : inG z.c.gr (gD (grN a).r z.s.i).fr = false := by simpa using x1
          have eq : goN a z.c z.s.i = -1 := by unfold goN sideB; rw [x1, x2]; rfl
          exact ⟨⟨z.c, ⟨z.s.b, z.s.sum, wr (z.s.o - gD (grTr a).f z.s.i), wr (z.s.l - (gD (grN a).r z.s.i).sp.hi), wr (z.s.h - (gD (grN a).r z.s.i).sp.lo), z.s.i + 1⟩⟩, ⟨rfl, rfl, rfl, rfl, (wsucc (by omega)).symm, fun _ _ => rfl, rfl, rfl⟩, next _ _ _ (by rw [eq]; exact w64 (by omega) (by omega)) (by rw [eq]; exact w64 (by omega) (by omega)) (by rw [eq]; exact w64 (by omega) (by omega)), by simp only; omega⟩
        · have eq : goN a z.c z.s.i = 0 := by
            unfold goN sideB
            revert c1 c2
            cases inG z.c.gr (gD (grN a).r z.s.i).fr <;> cases inG z.c.gr (gD (grN a).r z.s.i).to <;> simp
          exact ⟨⟨z.c, ⟨z.s.b, z.s.sum, z.s.o, z.s.l, z.s.h, z.s.i + 1⟩⟩, ⟨rfl, rfl, rfl, rfl, (wsucc (by omega)).symm, fun _ _ => rfl, rfl, rfl⟩, next _ _ _ (by rw [eq]; exact (Int.add_zero _).symm) (by rw [eq]; exact (Int.add_zero _).symm) (by rw [eq]; exact (Int.add_zero _).symm), by simp only; omega⟩
      case L4 =>
        have hk : z.s.i = (grN a).r.length := by omega
        obtain ⟨p1, p2, p3, p4, p5⟩ := t1
        obtain ⟨g1, g2, _⟩ := grp_vals hC p1 p4
        have hs : Grp (grN a).g.length z.c.gr := ⟨p1.1, p1.2⟩
        obtain ⟨b1, b2⟩ := grp_border n1 n2 hs
        have e1 : z.s.o = z.s.sum := by rw [t6, t5, hk]; exact (grp_over hC hs).symm
        rw [hk] at t7 t8
        have b1 : z.s.l ≤ (grpS ⟨grN a, z.c.gr⟩).lo := by rw [t7]; exact b1
        have b2 : (grpS ⟨grN a, z.c.gr⟩).hi ≤ z.s.h := by rw [t8]; exact b2
        rw [e1, g2, decide_eq_true (show (grpS ⟨grN a, z.c.gr⟩).lo ≥ z.s.l from b1), decide_eq_true b2]
        simp
theorem c6 (a : BB) (h1 : ByOk a.a) (h2 : ByOk a.b) : FnT Try.prog 6 [.d (eBys a.a), .d (eBys a.b)] (heapOf []) (.bool true) [] :=
  fnt (A := A6 a) (ren := []) (fz := []) Try.func6 (by kernel_rfl) (gok_cons ok30 (gok_cons ok29 (gok_cons ok35t (gok_cons ok33 (gok_cons ok14 gok_nil))))) (p6 a h1 h2)
end Go.Bal
