/- Package rating: a book at work. -/
import Derived.Test.YtoihhodbkimedaaRatD
set_option linter.unusedVariables false
set_option linter.unusedSimpArgs false
namespace Go.Bal
open Go Go.Sym Go.Proofs
structure Bk where
 g : List Gau
 b : List Int
 has : Int -> Bool
 st : Int -> Int
def LD (w : Bk) (k : Int) : List Gau := w.g.filter λ g => (LI w.b g.st : Int) == k
def EQ (s : List Gau) : List Ln := (LN s).filter (JC s)
def AK (w : Bk) (j : Int) : List Ln := bif w.has j then EQ (LD w j) else []
def bkB (w : Bk) (m : Nat) : AObj := .box [.d (BO w.g), .d (BL w.b), .mref m]
def bkM (w : Bk) : AObj := .imap .i64 (.slice none 0 0) w.has (λ j => kI (AK w j)) w.st none
def bkL (w : Bk) : List (Nat × AObj) := [(100, bkB w 101), (101, bkM w)]
def bkK (w : Bk) : List (Nat × HCell) := [(100, .live (bkB w 101)), (101, .live (bkM w))]
def HI (g : List Gau) (b : List Int) : Prop := g.length <= 24 /\ (∀ x ∈ g, GY x) /\ b.length <= 24 /\ asc b /\ ∀ x ∈ b, 1 <= x /\ x <= 2000
def BCA (H : Heap) (id : Nat) : Option (Bk × Nat) := match H id with
 | .live (.box [.d (.list _ n g _), .d (.list _ m b _), .mref q]) => match H q with
  | .live (.imap _ _ has _ st _) => some (⟨AD n λ i => UQ (g i), AD m λ i => DK (b i), has, st⟩, q)
  | _ => none
 | _ => none
structure BkI where
 w : Bk
 k : Int
def dBkI : List AVal -> Heap -> Option (BkI × List (Nat × Nat) × List Nat)
 | [.bptr id _, .d k], H => match BCA H id with
  | some (w, q) => some (⟨w, DK k⟩, [(100, id), (101, q)], [])
  | none => none
 | _, _ => none
def inA (w : Bk) (k : Int) (i : Nat) : Bool := (LI w.b (gD w.g i).st : Int) == k
def CHW (w : Bk) (k : Int) (m : Nat) : HCell := .live (.row 1 24 λ j => CPV (bif decide (j < m) then inA w k j else false))
def UR (w : Bk) (k : Int) (i : Nat) : List Gau := (w.g.take i).filter λ g => (LI w.b g.st : Int) == k
def in3 (a : BkI) : Shape := { α := Nat, dflt := 0, T := λ i => ⟨[(0, .bptr 100 0), (1, .int a.k), (5, .rptr 201 1 0 0), (15, .d (BO a.w.g)), (16, .int a.w.g.length), (17, .int i)], bkK a.w ++ [(201, CHW a.w a.k i)]⟩, inv := λ i => i <= a.w.g.length, meas := λ i => a.w.g.length - i, first := [(201, 2000)] }
structure GsK where
 i : Nat
 l : List Gau
 deriving Inhabited
def in9s (a : BkI) (i : Nat) : List (Nat × AVal) := [(5, .rptr 201 1 0 0), (39, .d (BO a.w.g)), (40, .int a.w.g.length), (41, .int i)]
def rowG (l : List Gau) : AObj := .row 3 l.length λ i => eGau (gD l i)
def in9h (a : BkI) : List (Nat × HCell) := bkK a.w ++ [(201, CHW a.w a.k a.w.g.length)]
def in9n (a : BkI) : Shape := { α := Nat, dflt := 0, T := λ i => ⟨(8, .d PD) :: in9s a i, in9h a⟩, inv := λ i => i <= a.w.g.length /\ UR a.w a.k i = [], meas := λ i => a.w.g.length - i }
def in9o (a : BkI) : Shape := { α := GsK, dflt := default, T := λ x => ⟨(8, .own 202 3 0 x.l.length) :: in9s a x.i, in9h a ++ [(202, .live (rowG x.l))]⟩, inv := λ x => x.i <= a.w.g.length /\ x.l = UR a.w a.k x.i, meas := λ x => a.w.g.length - x.i }
def COW (a : BkI) (m : Nat) : Shape := { α := Nat, dflt := 0, T := λ i => ⟨(8, .d PD) :: in9s a i, in9h a⟩, inv := λ i => i < a.w.g.length /\ a.w.g.length - i = m /\ UR a.w a.k (i + 1) = [], meas := λ i => 0 }
def CJX (a : BkI) (m : Nat) (f : List (Nat × Nat)) : Shape := { α := GsK, dflt := default, T := λ x => ⟨(8, .own 202 3 0 x.l.length) :: in9s a x.i, in9h a ++ [(202, .live (rowG x.l))]⟩, inv := λ x => x.i < a.w.g.length /\ a.w.g.length - x.i = m /\ x.l = UR a.w a.k (x.i + 1), meas := λ x => 0, first := f }
def C_inside : Ctr := { ro := [100, 101], α := BkI, xs := λ a => [.bptr 100 0, .int a.k], L := λ a => bkL a.w, val := λ a => .d (BO (LD a.w a.k)), keep := λ a => bkK a.w, pre := λ a => [HI a.w.g a.w.b /\ True] }
def BMA (a : BkI) : Ann := { ann 55 [(BFY, C_part.spec dIX)] with E := [100, 101], mt := λ id => id == 12, loops := λ id => if id = 3 then some [in3 a] else if id = 9 then some [in9n a, in9o a] else none, cutIn := λ gs id => if id = 13 then some [COW a (gs.getD 0 0), CJX a (gs.getD 0 0) [(202, 13048)], CJX a (gs.getD 0 0) []] else none }
def BKL (a : BkI) : Prop := AY Try.prog (BMA a) AKS (AF AKS) (C_inside.xs a) (AC (C_inside.L a)) (C_inside.val a) (C_inside.keep a) [] [202]
abbrev CI : Prop := 0 = 0
abbrev BW (a : BkI) : Prop := a.w.g.length = a.w.g.length
abbrev aM (a : BkI) (i : Nat) : Prop := (gD a.w.g i).st = (gD a.w.g i).st
abbrev BX (a : BkI) : Prop := ∀ (i : Nat), i < a.w.g.length -> aM a i /\ (gD a.w.g i).lo = (gD a.w.g i).lo /\ (gD a.w.g i).hi = (gD a.w.g i).hi
abbrev FO (a : BkI) : Prop := (↑a.w.g.length : Int) = (↑a.w.g.length : Int)
abbrev Zt (a : Nat) : Prop := (↑a : Int) = 0
abbrev GH (a : BkI) : Prop := a.w.b.length = a.w.b.length
abbrev GF (a : BkI) : Prop := ∀ (i : Nat), i < a.w.b.length -> gD a.w.b i = gD a.w.b i
abbrev cM : Value := Value.slice none 0 0
abbrev GP : Prop := cM = cM
abbrev FA (a : BkI) : Prop := ∀ (n : Int), a.w.has n = a.w.has n
abbrev FI (a : BkI) : Prop := ∀ (n : Int), a.w.st n = a.w.st n
abbrev FD (a : BkI) : Prop := ∀ (n : Int), (AK a.w n).length = (AK a.w n).length /\ ∀ (i : Nat), i < (AK a.w n).length -> (gD (AK a.w n) i).a0 = (gD (AK a.w n) i).a0 /\ (gD (AK a.w n) i).a1 = (gD (AK a.w n)
 i).a1 /\ (gD (AK a.w n) i).b0 = (gD (AK a.w n) i).b0 /\ (gD (AK a.w n) i).b1 = (gD (AK a.w n) i).b1
abbrev GC : Prop := 24 = 24
abbrev PG (i : Nat) (a : Nat) (a1 : BkI) : Bool := bif decide (i < a) then inA a1.w a1.k i else false
abbrev Nb (a : Nat) (a1 : BkI) : Prop := (↑a : Int) < (↑a1.w.g.length : Int)
abbrev Jz (a : Nat) (a1 : BkI) : Bool := decide (Nb a a1)
abbrev On (a : Nat) : Prop := 0 <= (↑a : Int)
abbrev Nh (a : Nat) (a1 : BkI) : Prop := On a /\ Nb a a1
abbrev OY (a : BkI) : List Int := AD a.w.b.length λ (i : Nat) => gD a.w.b i
abbrev VG (a : BkI) : Nat := (OY a).length
abbrev Kf (a : Nat) : Prop := (On a /\ (↑a : Int) < (↑24 : Int)) /\ a.succ.le 24
abbrev No (a : Nat) (a1 : Nat) : Prop := (↑a : Int) = IntKind.i64.wrap ((↑a1 : Int) + 1)
abbrev FG (a : BkI) (a1 : Nat) : Nat := a.w.g.length - a1
abbrev Km (a : BkI) (a1 : Nat) (a2 : Nat) : Prop := FG a a1 < FG a a2
abbrev VQ : Prop := ∀ (i : Nat), i < 0 -> false = false
abbrev VC (i : Nat) (a : BkI) : Bool := bif decide (i < a.w.g.length) then inA a.w a.k i else false
abbrev PC (a : Nat) (a1 : BkI) : Prop := a <= a1.w.g.length /\ UR a1.w a1.k a = []
abbrev VB : Prop := 0 < 1
abbrev Od : Prop := 3 = 3
abbrev Mz : Prop := 1 <= 1 /\ (VB -> Od)
abbrev Mc (a : GsK) : Prop := a.l.length = 1
abbrev PN (a : BkI) : Prop := ∀ (i : Nat), i < 24 -> VC i a = VC i a
abbrev VP (a : GsK) (a1 : BkI) : Prop := a.i < a1.w.g.length
abbrev FE (a : BkI) (a1 : GsK) : Nat := a.w.g.length - a1.i
abbrev Nz (a : GsK) (a1 : BkI) : Prop := a.l = UR a1.w a1.k (a.i + 1)
abbrev Nl (a : GsK) (a1 : BkI) (a2 : Nat) : Prop := VP a a1 /\ FE a1 a = FG a1 a2 /\ Nz a a1
abbrev Lq (a : BkI) : Prop := BW a /\ BX a /\ GH a /\ GF a /\ GP /\ FA a /\ FI a /\ FD a /\ GC /\ PN a
abbrev Is (a : BkI) (a1 : Nat) : Prop := UR a.w a.k (a1 + 1) = []
abbrev Nw (a : Nat) (a1 : BkI) (a2 : Nat) : Prop := a < a1.w.g.length /\ FG a1 a = FG a1 a2 /\ Is a1 a
abbrev Ol (a : BkI) (a1 : Nat) (a2 : Nat) : Prop := CI /\ VQ /\ CI /\ BW a /\ BX a /\ FO a /\ No a1 a2 /\ Lq a
abbrev VO (a : GsK) (a1 : GsK) : Prop := a.l.length = a1.l.length
abbrev Lj (a : BkI) (a1 : GsK) (a2 : GsK) : Prop := BW a /\ BX a /\ GH a /\ GF a /\ GP /\ FA a /\ FI a /\ FD a /\ GC /\ PN a /\
 VO a1 a2 /\ ∀ (i : Nat), i < a1.l.length -> (gD a1.l i).st = (gD a2.l i).st /\ (gD a1.l i).lo = (gD a2.l i).lo /\ (gD a1.l i).hi = (gD a2.l i).hi
abbrev Iq (a : GsK) (a1 : GsK) (a2 : BkI) : Prop := CI /\ VO a a1 /\ CI /\ BW a2 /\ BX a2 /\ FO a2 /\ (↑a.i : Int) = IntKind.i64.wrap ((↑a1.i : Int) + 1) /\ Lj
 a2 a a1
abbrev VM (a : GsK) (a1 : BkI) : Prop := a.i <= a1.w.g.length /\ a.l = UR a1.w a1.k a.i
abbrev Mi (a : BkI) (a1 : Nat) : Prop := ∀ (a_1 : GsK), Nl a_1 a a1 -> ∃ (a_3 : GsK), Iq a_3 a_1 a /\ VM a_3 a /\ FE a a_3 < FG a a1
abbrev Kj (a : BkI) : Prop := (LD a.w a.k).length = 0
abbrev Na (a : BkI) : Prop := BW a /\ BX a /\ GH a /\ GF a /\ GP /\ FA a /\ FI a /\ FD a
abbrev Im (a : GsK) (a1 : BkI) : Prop := (↑a.i : Int) < (↑a1.w.g.length : Int)
abbrev My (a : GsK) : Prop := 0 <= (↑a.i : Int)
abbrev VA (a : GsK) : Nat := a.l.length + 1
abbrev Mw (a : GsK) (a1 : GsK) : Prop := a.l.length = VA a1
abbrev Ma (a : GsK) (a1 : GsK) : Prop := (↑a.i : Int) = (↑a1.i : Int)
abbrev VF (i : Nat) (a : GsK) : Bool := decide (i < a.l.length)
abbrev UW (a : GsK) (a1 : BkI) (a2 : GsK) : Prop := VP a a1 /\ FE a1 a = FE a1 a2 /\ Nz a a1
abbrev Hy (a : BkI) (a1 : GsK) : Prop := ∀ (a_1 : GsK), UW a_1 a a1 -> ∃ (a_3 : GsK), Iq a_3 a_1 a /\ VM a_3 a /\ FE a a_3 < FE a a1
abbrev VK (a : GsK) (j : Nat) : Gau := gD a.l (0 + j)
theorem BUC (a : BkI) : (BKL a) = ((Value.agg #[Value.bool false, Value.bool false, Value.bool false, Value.bool false, Value.bool false, Value.bool false, Value.bool false, Value.bool false, Value.bool false,
 Value.bool false, Value.bool false, Value.bool false, Value.bool false, Value.bool false, Value.bool false, Value.bool false, Value.bool false, Value.bool false, Value.bool false, Value.bool false, Value.bool false,
 Value.bool false, Value.bool false, Value.bool false]).cells.toList = (List.replicate 24 (Value.bool false).cells.toList).flatten /\ (∃ (a_1 : Nat), (a.k = a.k /\ CI /\ BW a /\ BX a /\ FO a /\
 Zt a_1 /\ BW a /\ BX a /\ GH a /\ GF a /\ GP /\ FA a /\ FI a /\ FD a /\ GC /\ ∀ (i : Nat), i < 24 -> PG i a_1 a = false) /\ a_1.le
 a.w.g.length) /\ ∀ (a_1 : Nat), a_1.le a.w.g.length -> bif Jz a_1 a then Nh a_1 a /\ (VG a = a.w.b.length /\ (∀ (i : Nat), i < VG a -> gD (OY a) i = gD a.w.b i) /\ aM a a_1
 /\ (VG a < 4611686018427387904 /\ List.Pairwise (λ (x1 x2 : Int) => x1 < x2) (OY a)) /\ Kf a_1) /\ ∃ (a_3 : Nat), (a.k = a.k /\ CI /\ BW a /\ BX a /\ FO a /\
 No a_3 a_1 /\ BW a /\ BX a /\ GH a /\ GF a /\ GP /\ FA a /\ FI a /\ FD a /\ GC /\ ∀ (i : Nat), i < 24 -> PG i a_3 a = bif decide (i =
 a_1) then (↑(LI (OY a) (gD a.w.g a_1).st) : Int) == a.k else PG i a_1 a) /\ a_3.le a.w.g.length /\ Km a a_3 a_1 else (∃ (a_3 : Nat), (CI /\ VQ /\ CI /\ BW a /\
 BX a /\ FO a /\ Zt a_3 /\ BW a /\ BX a /\ GH a /\ GF a /\ GP /\ FA a /\ FI a /\ FD a /\ GC /\ ∀ (i : Nat), i < 24 -> VC i a
 = PG i a_1 a) /\ PC a_3 a) /\ (∀ (a_3 : Nat), PC a_3 a -> bif Jz a_3 a then (Nh a_3 a /\ Kf a_3 /\ bif bif decide (a_3 < a.w.g.length) then inA a.w a.k a_3 else false then
 ((True /\ (0 < 0 -> 0 = 3)) /\ Mz /\ (true = true -> VB) /\ 1 <= 9223372036854775807 /\ 24 <= 140737488355328) /\ ∃ (a_5 : GsK), (CI /\ Mc a_5 /\ CI /\ BW a /\ BX a /\
 FO a /\ (↑a_5.i : Int) = (↑a_3 : Int) /\ BW a /\ BX a /\ GH a /\ GF a /\ GP /\ FA a /\ FI a /\ FD a /\ GC /\ PN a /\ Mc a_5 /\ ∀ (i
 : Nat), i < a_5.l.length -> (gD a_5.l i).st = (gD a.w.g a_3).st /\ (gD a_5.l i).lo = (gD a.w.g a_3).lo /\ (gD a_5.l i).hi = (gD a.w.g a_3).hi) /\ Nl a_5 a a_3 else ∃ (a_5 : Nat), (CI /\ VQ /\
 CI /\ BW a /\ BX a /\ FO a /\ (↑a_5 : Int) = (↑a_3 : Int) /\ Lq a) /\ Nw a_5 a a_3) /\ (∀ (a_5 : Nat), Nw a_5 a a_3 -> ∃ (a_7 : Nat), Ol a a_7 a_5 /\ PC
 a_7 a /\ Km a a_7 a_3) /\ Mi a a_3 /\ Mi a a_3 else Kj a /\ Kj a /\ Na a) /\ ∀ (a_3 : GsK), VM a_3 a -> bif decide (Im a_3 a) then ((My a_3 /\
 Im a_3 a) /\ ((My a_3 /\ (↑a_3.i : Int) < (↑24 : Int)) /\ a_3.i.succ.le 24) /\ bif bif decide (VP a_3 a) then inA a.w a.k a_3.i else false then ((a_3.l.length = a_3.l.length /\ (0 < a_3.l.length ->
 Od)) /\ Mz /\ (false = true -> VB) /\ VA a_3 <= 9223372036854775807 /\ VA a_3 * 24 <= 140737488355328) /\ ∃ (a_5 : GsK), (CI /\ Mw a_5 a_3 /\ CI /\ BW a
 /\ BX a /\ FO a /\ Ma a_5 a_3 /\ BW a /\ BX a /\ GH a /\ GF a /\ GP /\ FA a /\ FI a /\ FD a /\ GC /\ PN a /\ Mw a_5
 a_3 /\ ∀ (i : Nat), i < a_5.l.length -> ((gD a_5.l i).st = bif VF i a_3 then (gD a_3.l i).st else (gD a.w.g a_3.i).st) /\ ((gD a_5.l i).lo = bif VF i a_3 then (gD a_3.l i).lo else (gD a.w.g a_3.i).lo) /\
 (gD a_5.l i).hi = bif VF i a_3 then (gD a_3.l i).hi else (gD a.w.g a_3.i).hi) /\ UW a_5 a a_3 else ∃ (a_5 : GsK), (CI /\ VO a_5 a_3 /\ CI /\ BW a /\ BX a /\ FO
 a /\ Ma a_5 a_3 /\ Lj a a_5 a_3) /\ UW a_5 a a_3) /\ (∀ (a_5 : Nat), a_5 < a.w.g.length /\ FG a a_5 = FE a a_3 /\ Is a a_5 -> ∃ (a_7 : Nat), Ol a a_7 a_5 /\
 PC a_7 a /\ FG a a_7 < FE a a_3) /\ Hy a a_3 /\ Hy a a_3 else (LD a.w a.k).length = a_3.l.length /\ 0 + a_3.l.length <= a_3.l.length /\ (∀ (j : Nat), j < (LD a.w a.k).length ->
 (gD (LD a.w a.k) j).st = (VK a_3 j).st /\ (gD (LD a.w a.k) j).lo = (VK a_3 j).lo /\ (gD (LD a.w a.k) j).hi = (VK a_3 j).hi) /\ Na a) := by kernel_rfl
theorem Rm {w : Bk} {k : Int} {i : Nat} (h : i < w.g.length) : UR w k (i + 1) = if inA w k i = true then UR w k i ++ [gD w.g i] else UR w k i := by
 unfold UR
 rw [EZ h, List.filter_append]
 unfold inA
 split
 ·rename_i h1; simp [List.filter_cons, h1]
 ·rename_i h1; simp [List.filter_cons, h1]
theorem BLJ {w : Bk} {k : Int} {i : Nat} (h : w.g.length <= i) : UR w k i = LD w k := by unfold UR LD; rw [List.take_of_length_le h]
theorem BLU {w : Bk} {k : Int} {i : Nat} : (UR w k i).length <= w.g.length :=
 Nat.le_trans (List.length_filter_le _ _) (by simp; omega)
theorem BQM (l : List Gau) (p : Gau) (i : Nat) (hi : i < (l ++ [p]).length) : ((gD (l ++ [p]) i).st = bif decide (i < l.length) then (gD l i).st else p.st) /\ ((gD (l ++ [p]) i).lo = bif decide (i < l.length) then (gD l i).lo else p.lo) /\ (gD (l ++ [p]) i).hi = bif decide (i < l.length) then (gD l i).hi else p.hi := by
 rw [wM _ _ (by simpa using hi)]
 cases decide (i < l.length) <;> exact ⟨rfl, rfl, rfl⟩
theorem BXU (a : BkI) (h : HI a.w.g a.w.b) : BKL a := by
 rw [BUC]; delta CI BW aM BX FO Zt GH GF cM GP FA FI FD GC PG Nb Jz On Nh OY VG Kf No FG Km VQ VC PC VB Od Mz Mc PN VP FE Nz Nl Lq Is Nw Ol VO Lj Iq VM Mi Kj Na Im My VA Mw Ma VF UW Hy VK; simp only [CC, eq_self, implies_true, forall_const]
 obtain ⟨hg, hgo, hb, hasc, hbr⟩ := h
 have cn : ∀ (m i : Nat), i < a.w.g.length /\ a.w.g.length - i = m /\ UR a.w a.k (i + 1) = [] -> ∃ j : Nat, (j : Int) = IntKind.i64.wrap ((i : Int) + 1) /\ (j <= a.w.g.length /\ UR a.w a.k j = []) /\ a.w.g.length - j < m := λ m i h => ⟨i + 1, (CA (by omega)).symm, ⟨h.1, h.2.2⟩, by omega⟩
 have co : ∀ (m : Nat) (x : GsK), x.i < a.w.g.length /\ a.w.g.length - x.i = m /\ x.l = UR a.w a.k (x.i + 1) -> ∃ y : GsK, (y.l.length = x.l.length /\ (y.i : Int) = IntKind.i64.wrap ((x.i : Int) + 1) /\ y.l.length = x.l.length /\ ∀ (i : Nat), i < y.l.length -> (gD y.l i).st = (gD x.l i).st /\ (gD y.l i).lo = (gD x.l i).lo /\ (gD y.l i).hi = (gD x.l i).hi) /\ (y.i <= a.w.g.length /\ y.l = UR a.w a.k y.i) /\ a.w.g.length - y.i < m := λ m x h => ⟨⟨x.i + 1, x.l⟩, ⟨rfl, (CA (by omega)).symm, rfl, λ _ _ => ⟨rfl, rfl, rfl⟩⟩, ⟨h.1, h.2.2⟩, by show a.w.g.length - (x.i + 1) < m; omega⟩
 have ne : ∀ (i : Nat), i < a.w.g.length -> UR a.w a.k i = [] -> inA a.w a.k i = false -> UR a.w a.k (i + 1) = [] := λ i hi h1 h2 => by
  rw [Rm hi, h2, h1]; simp
 refine ⟨rfl, ⟨0, ⟨rfl, λ i hi => by simp⟩, Nat.zero_le _⟩, λ i hi => ⟨λ hlt => ⟨⟨by omega, by omega⟩, ⟨⟨by omega, hasc⟩, ⟨by omega, by omega⟩, by omega⟩, i + 1, ⟨(CA (by omega)).symm, λ j hj => ?_⟩, by omega, by omega⟩, λ hge => ⟨⟨0, ⟨rfl, λ j hj => by rw [show i = a.w.g.length by omega]⟩, Nat.zero_le _, by simp [UR]⟩,
  λ i hi => ⟨λ hlt => ⟨⟨⟨by omega, by omega⟩, ⟨⟨by omega, by omega⟩, by omega⟩, λ hp => ⟨by simp, ⟨i, [gD a.w.g i]⟩, ⟨rfl, rfl, rfl, λ j hj => ?_⟩, Int.ofNat_lt.1 hlt, rfl, ?_⟩, λ hp => ⟨i, rfl, by omega, rfl, ne i (by omega) hi.2 ?_⟩⟩, cn _, co _⟩, λ hge => ?_⟩,
  λ x hx => ⟨λ hlt => ⟨⟨⟨by omega, by omega⟩, ⟨⟨by omega, by omega⟩, by omega⟩, λ hp => ⟨⟨by simp, by simp, ?_, ?_⟩, ⟨x.i, x.l ++ [gD a.w.g x.i]⟩, ⟨by simp, rfl, by simp, BQM _ _⟩, Int.ofNat_lt.1 hlt, rfl, ?_⟩, λ hp => ⟨⟨x.i, x.l⟩, ⟨rfl, rfl, rfl, λ _ _ => ⟨rfl, rfl, rfl⟩⟩, Int.ofNat_lt.1 hlt, rfl, ?_⟩⟩, cn _, co _⟩, λ hge => ?_⟩⟩⟩⟩
 ·by_cases h1 : j = i
  ·subst h1; simp [inA]
  ·by_cases h2 : j < i
   ·simp [h1, h2, show j < i + 1 by omega]
   ·simp [h1, h2, show ¬ j < i + 1 by omega]
 ·have : j = 0 := by have hj : j < 1 := hj; omega
  subst this; exact ⟨rfl, rfl, rfl⟩
 ·have hlt' : i < a.w.g.length := Int.ofNat_lt.1 hlt
  show [gD a.w.g i] = _
  rw [Rm hlt', hi.2, if_pos (by simpa [hlt'] using hp)]; rfl
 ·have hlt' : i < a.w.g.length := Int.ofNat_lt.1 hlt
  simpa [hlt'] using hp
 ·rw [<- BLJ (i := i) (by omega), hi.2]; rfl
 ·have := BLU (w := a.w) (k := a.k) (i := x.i); rw [<- hx.2] at this; omega
 ·have := BLU (w := a.w) (k := a.k) (i := x.i); rw [<- hx.2] at this; omega
 ·show x.l ++ _ = _
  have hlt' : x.i < a.w.g.length := Int.ofNat_lt.1 hlt
  rw [Rm hlt', <- hx.2, if_pos (by simpa [hlt'] using hp)]
 ·show x.l = _
  have hlt' : x.i < a.w.g.length := Int.ofNat_lt.1 hlt
  rw [Rm hlt', <- hx.2, if_neg (by simpa [hlt'] using hp)]
 ·have e : x.l = LD a.w a.k := by rw [hx.2, BLJ (by omega)]
  rw [e]; exact ⟨rfl, Nat.le_refl _, λ _ _ => ⟨rfl, rfl, rfl⟩⟩
theorem BCF : AG Try.prog AOJ (C_inside.spec dBkI) := JX C_inside BMA [] [202] BTU (λ _ => by kernel_rfl) (λ _ => AB BGR AE) (λ (a : BkI) h => BXU a (show HI a.w.g a.w.b /\ True from h).1) (λ _ => KJ rfl rfl) _
def AR (w : Bk) (k : Int) : Span := ⟨bif decide (k > 0) then gD w.b (k - 1).toNat else 0, bif decide (k < w.b.length) then wr (gD w.b k.toNat - 1) else 2000⟩
def C_span : Ctr := { ro := [100, 101], α := BkI, xs := λ a => [.bptr 100 0, .int a.k], L := λ a => bkL a.w, val := λ a => .d (BBQ (AR a.w a.k)), keep := λ a => bkK a.w, pre := λ a => [HI a.w.g a.w.b /\ 0 <= a.k /\ a.k <= a.w.b.length] }
def BYJ : Ann := { ann 38 [] with E := [100, 101] }
def CDC (a : BkI) : Prop := AY Try.prog BYJ BPH (AF BPH) (C_span.xs a) (AC (C_span.L a)) (C_span.val a) (C_span.keep a) [] []
abbrev wQ (a : BkI) : Int := IntKind.i64.wrap (a.k - 1)
abbrev AZI (a : BkI) : Prop := a.k < (↑a.w.b.length : Int)
abbrev AKA (a : BkI) : Bool := decide (AZI a)
abbrev AKW (a : BkI) : Prop := 0 <= a.k /\ AZI a
abbrev AUZ (a : BkI) : Prop := (AR a.w a.k).lo = gD a.w.b (wQ a).toNat
abbrev AOF : Value := Value.slice none 0 0
abbrev AQF (a : BkI) : Prop := a.w.g.length = a.w.g.length /\ (∀ (i : Nat), i < a.w.g.length -> (gD a.w.g i).st = (gD a.w.g i).st /\ (gD a.w.g i).lo = (gD a.w.g i).lo /\ (gD a.w.g i).hi = (gD a.w.g i).hi) /\ a.w.b.length
 = a.w.b.length /\ (∀ (i : Nat), i < a.w.b.length -> gD a.w.b i = gD a.w.b i) /\ AOF = AOF /\ (∀ (n : Int), a.w.has n = a.w.has n) /\ (∀ (n : Int), a.w.st n = a.w.st n) /\ ∀ (n : Int), (AK a.w n).length = (AK a.w
 n).length /\ ∀ (i : Nat), i < (AK a.w n).length -> (gD (AK a.w n) i).a0 = (gD (AK a.w n) i).a0 /\ (gD (AK a.w n) i).a1 = (gD (AK a.w n) i).a1 /\ (gD (AK a.w n) i).b0 = (gD (AK a.w n) i).b0 /\ (gD (AK a.w n) i).b1 =
 (gD (AK a.w n) i).b1
abbrev AKE (a : BkI) : Prop := (AR a.w a.k).hi = IntKind.i64.wrap (gD a.w.b a.k.toNat - 1) /\ AQF a
abbrev ARG (a : BkI) : Prop := (AR a.w a.k).hi = 2000 /\ AQF a
abbrev AUO (a : BkI) : Prop := (AR a.w a.k).lo = 0
theorem CEC (a : BkI) : (CDC a) = (bif decide (a.k > 0) then (0 <= wQ a /\ wQ a < (↑a.w.b.length : Int)) /\ bif AKA a then AKW a /\ AUZ a /\ AKE a else AUZ a /\ ARG a else bif
 AKA a then AKW a /\ AUO a /\ AKE a else AUO a /\ ARG a) := by kernel_rfl
theorem Pw : AG Try.prog AZO (C_span.spec dBkI) := JX C_span (λ _ => BYJ) [] [] CFP (λ _ => by kernel_rfl) (λ _ => AE) (λ (a : BkI) h => by
 show CDC a; rw [CEC]; delta wQ AZI AKA AKW AUZ AOF AQF AKE ARG AUO; simp only [CC, eq_self, implies_true, forall_const]
 obtain ⟨⟨hg, hgo, hb, hasc, hbr⟩, h1, h2⟩ : HI a.w.g a.w.b /\ 0 <= a.k /\ a.k <= a.w.b.length := h
 rw [EO (n := a.k - 1) (by omega) (by omega)]
 unfold AR wr
 refine ⟨λ h3 => ⟨by omega, λ h4 => ⟨by omega, ?_, ?_⟩, λ h4 => ⟨?_, ?_⟩⟩, λ h3 => ⟨λ h4 => ⟨by omega, ?_, ?_⟩, λ h4 => ⟨?_, ?_⟩⟩⟩ <;> simp [h3, h4]) (λ _ => KJ rfl rfl) _
structure GB where
 g : List Gau
 b : List Int
def dGB : List AVal -> Heap -> Option (GB × List (Nat × Nat) × List Nat)
 | [x, y], H => match AIZ x H, AEV y H with
  | some (l, f), some (m, e) => some (⟨l, m⟩, [], f ++ e)
  | _, _ => none
 | _, _ => none
def xGB (a : GB) : List AVal := [.d (BO a.g), .d (BL a.b)]
def AV (a : GB) : Int := bif AT a.g == 0 then GN a.b else AT a.g
def BG (a : GB) : Bk := ⟨a.g, a.b, λ _ => false, λ _ => 0⟩
def C_open : Ctr := { α := GB, xs := xGB, L := λ _ => [], val := λ _ => .tup [.bptr 0 0, .int 0], keep := λ a => [(0, .live (bkB (BG a) 1)), (1, .live (bkM (BG a)))], pre := λ a => [a.g.length < 4611686018427387904 /\ a.b.length < 4611686018427387904 /\ AV a = 0] }
def C_openX : Ctr := { α := GB, xs := xGB, L := λ _ => [], val := λ a => .tup [.d (.v (.pointer none)), .int (AV a)], keep := λ _ => [], pre := λ a => [a.g.length < 4611686018427387904 /\ a.b.length < 4611686018427387904 /\ AV a ≠ 0] }
def BDD : Ann := ann 22 [(tW, C_Check.spec UV), (ASR, C_checkB.spec dIs1)]
def BWJ (a : GB) : Prop := AY Try.prog BDD Ko (AF Ko) (xGB a) (AC []) (C_open.val a) (C_open.keep a) [(0, 7080), (1, 7048)] []
theorem CEZ (a : GB) : (BWJ a) = (((AD a.g.length λ (i : Nat) => gD a.g i).length = a.g.length /\ (∀ (i : Nat), i < (AD a.g.length λ (i : Nat) => gD a.g i).length -> (gD (AD a.g.length λ (i : Nat) => gD a.g
 i) i).st = (gD a.g i).st /\ (gD (AD a.g.length λ (i : Nat) => gD a.g i) i).lo = (gD a.g i).lo /\ (gD (AD a.g.length λ (i : Nat) => gD a.g i) i).hi = (gD a.g i).hi) /\ (AD a.g.length λ (i : Nat) => gD a.g i).length
 < (4611686018427387904 : Nat) /\ True) /\ bif AT (AD a.g.length λ (i : Nat) => gD a.g i) == (0 : Int) then ((AD a.b.length λ (i : Nat) => gD a.b i).length = a.b.length /\ (∀ (i : Nat), i < (AD a.b.length λ (i :
 Nat) => gD a.b i).length -> gD (AD a.b.length λ (i : Nat) => gD a.b i) i = gD a.b i) /\ (AD a.b.length λ (i : Nat) => gD a.b i).length < (4611686018427387904 : Nat) /\ True) /\ bif GN (AD a.b.length λ (i : Nat)
 => gD a.b i) != (0 : Int) then False else Int.ofNat (0 : Nat) = Int.ofNat (0 : Nat) /\ (BG a).g.length = a.g.length /\ (∀ (i : Nat), i < (BG a).g.length -> (gD (BG a).g i).st = (gD a.g i).st /\ (gD (BG a).g i).lo =
 (gD a.g i).lo /\ (gD (BG a).g i).hi = (gD a.g i).hi) /\ (BG a).b.length = a.b.length /\ (∀ (i : Nat), i < (BG a).b.length -> gD (BG a).b i = gD a.b i) /\ Value.slice none (0 : Nat) (0 : Nat) = Value.slice none (0 :
 Nat) (0 : Nat) /\ (∀ (n : Int), false = false) /\ (∀ (n : Int), (BG a).st n = (0 : Int)) /\ ∀ (n : Int), (AK (BG a) n).length = (0 : Nat) /\ (AK (BG a) n).length = (0 : Nat) else bif AT (AD a.g.length λ (i :
 Nat) => gD a.g i) != (0 : Int) then False else Int.ofNat (0 : Nat) = Int.ofNat (0 : Nat) /\ (BG a).g.length = a.g.length /\ (∀ (i : Nat), i < (BG a).g.length -> (gD (BG a).g i).st = (gD a.g i).st /\ (gD (BG a).g
 i).lo = (gD a.g i).lo /\ (gD (BG a).g i).hi = (gD a.g i).hi) /\ (BG a).b.length = a.b.length /\ (∀ (i : Nat), i < (BG a).b.length -> gD (BG a).b i = gD a.b i) /\ Value.slice none (0 : Nat) (0 : Nat) = Value.slice none
 (0 : Nat) (0 : Nat) /\ (∀ (n : Int), false = false) /\ (∀ (n : Int), (BG a).st n = (0 : Int)) /\ ∀ (n : Int), (AK (BG a) n).length = (0 : Nat) /\ (AK (BG a) n).length = (0 : Nat)) := by kernel_rfl
def BRK (a : GB) : Prop := AY Try.prog BDD Ko (AF Ko) (xGB a) (AC []) (C_openX.val a) [] [] []
theorem BZR (a : GB) : (BRK a) = (((AD a.g.length λ (i : Nat) => gD a.g i).length = a.g.length /\ (∀ (i : Nat), i < (AD a.g.length λ (i : Nat) => gD a.g i).length -> (gD (AD a.g.length λ (i : Nat) => gD
 a.g i) i).st = (gD a.g i).st /\ (gD (AD a.g.length λ (i : Nat) => gD a.g i) i).lo = (gD a.g i).lo /\ (gD (AD a.g.length λ (i : Nat) => gD a.g i) i).hi = (gD a.g i).hi) /\ (AD a.g.length λ (i : Nat) => gD a.g
 i).length < 4611686018427387904 /\ True) /\ bif AT (AD a.g.length λ (i : Nat) => gD a.g i) == 0 then ((AD a.b.length λ (i : Nat) => gD a.b i).length = a.b.length /\ (∀ (i : Nat), i < (AD a.b.length λ (i : Nat)
 => gD a.b i).length -> gD (AD a.b.length λ (i : Nat) => gD a.b i) i = gD a.b i) /\ (AD a.b.length λ (i : Nat) => gD a.b i).length < 4611686018427387904 /\ True) /\ bif GN (AD a.b.length λ (i : Nat) => gD a.b i)
 != 0 then Value.pointer none = Value.pointer none /\ AV a = GN (AD a.b.length λ (i : Nat) => gD a.b i) else False else bif AT (AD a.g.length λ (i : Nat) => gD a.g i) != 0 then Value.pointer none =
 Value.pointer none /\ AV a = AT (AD a.g.length λ (i : Nat) => gD a.g i) else False) := by kernel_rfl
theorem AGG : AG Try.prog TW (C_open.spec dGB) := JX C_open (λ _ => BDD) [(0, 7080), (1, 7048)] [] BBZ (λ _ => by kernel_rfl) (λ _ => AB pF (AB BCG AE)) (λ (a : GB) h => by
 show BWJ a; rw [CEZ]; simp only [CC, eq_self, implies_true, forall_const]
 obtain ⟨h1, h2, h3⟩ : a.g.length < 4611686018427387904 /\ a.b.length < 4611686018427387904 /\ AV a = 0 := h
 have key : (BG a).g.length = a.g.length /\ (∀ i : Nat, i < (BG a).g.length -> (gD (BG a).g i).st = (gD a.g i).st /\ (gD (BG a).g i).lo = (gD a.g i).lo /\ (gD (BG a).g i).hi = (gD a.g i).hi) /\ (BG a).b.length = a.b.length /\ (∀ i : Nat, i < (BG a).b.length -> gD (BG a).b i = gD a.b i) /\ (∀ n : Int, (BG a).st n = 0) /\ ∀ n : Int, (AK (BG a) n).length = 0 := ⟨rfl, λ _ _ => ⟨rfl, rfl, rfl⟩, rfl, λ _ _ => rfl, λ _ => rfl, λ _ => rfl⟩
 unfold AV at h3
 refine ⟨h1, λ h4 => ⟨h2, λ h5 => ?_, λ _ => key⟩, λ h4 => ⟨λ h5 => ?_, λ _ => key⟩⟩
 ·rw [h4] at h3; simp at h3 h5; exact h5 h3
 ·rw [h4] at h3; simp at h3 h5; exact h5 h3) (λ _ => KJ rfl rfl) _
theorem AOM : AG Try.prog TW (C_openX.spec dGB) := JX C_openX (λ _ => BDD) [] [] BBZ (λ _ => by kernel_rfl) (λ _ => AB pF (AB BCG AE)) (λ (a : GB) h => by
 show BRK a; rw [BZR]; simp only [CC, eq_self, implies_true, forall_const]
 obtain ⟨h1, h2, h3⟩ : a.g.length < 4611686018427387904 /\ a.b.length < 4611686018427387904 /\ AV a ≠ 0 := h
 refine ⟨h1, λ h4 => ⟨h2, λ h5 => ?_, λ h5 => h3 ?_⟩, λ h4 => ⟨λ h5 => ?_, λ h5 => h3 ?_⟩⟩
 ·unfold AV; rw [h4]; rfl
 ·unfold AV; rw [h4]; simpa using h5
 ·unfold AV; rw [h4]; rfl
 ·unfold AV; rw [h4]; simpa using h5) (λ _ => KJ rfl rfl) _
end Go.Bal
