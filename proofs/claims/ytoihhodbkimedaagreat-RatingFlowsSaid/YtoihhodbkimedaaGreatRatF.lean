/- Package rating: a book at work. -/
import Derived.Test.YtoihhodbkimedaaGreatRatD
set_option linter.unusedVariables false
set_option linter.unusedSimpArgs false
namespace Go.Bal
open Go Go.Sym Go.Proofs
structure Bk where
 g : List Gau
 b : List Int
 has : Int -> Bool
 st : Int -> Int
def KY (w : Bk) (k : Int) : List Gau := w.g.filter λ g => (ET w.b g.st : Int) == k
def EP (s : List Gau) : List Ln := (LQ s).filter (JO s)
def AK (w : Bk) (j : Int) : List Ln := bif w.has j then EP (KY w j) else []
def bkB (w : Bk) (m : Nat) : AObj := .box [.d (AS w.g), .d (BC w.b), .mref m]
def bkM (w : Bk) : AObj := .imap .i64 (.slice none 0 0) w.has (λ j => eLns (AK w j)) w.st none
def bkL (w : Bk) : List (Nat × AObj) := [(100, bkB w 101), (101, bkM w)]
def bkK (w : Bk) : List (Nat × HCell) := [(100, .live (bkB w 101)), (101, .live (bkM w))]
def GZ (g : List Gau) (b : List Int) : Prop := g.length <= 24 /\ (∀ x ∈ g, DJ x) /\ b.length <= 24 /\ asc b /\ ∀ x ∈ b, 1 <= x /\ x <= 2000
def BBF (H : Heap) (id : Nat) : Option (Bk × Nat) := match H id with
 | .live (.box [.d (.list _ n g _), .d (.list _ m b _), .mref q]) => match H q with
  | .live (.imap _ _ has _ st _) => some (⟨AE n λ i => TJ (g i), AE m λ i => DH (b i), has, st⟩, q)
  | _ => none
 | _ => none
structure BkI where
 w : Bk
 k : Int
def dBkI : List AVal -> Heap -> Option (BkI × List (Nat × Nat) × List Nat)
 | [.bptr id _, .d k], H => match BBF H id with
  | some (w, q) => some (⟨w, DH k⟩, [(100, id), (101, q)], [])
  | none => none
 | _, _ => none
def inA (w : Bk) (k : Int) (i : Nat) : Bool := (ET w.b (gD w.g i).st : Int) == k
def CQU (w : Bk) (k : Int) (m : Nat) : HCell := .live (.row 1 24 λ j => CWO (bif decide (j < m) then inA w k j else false))
def UW (w : Bk) (k : Int) (i : Nat) : List Gau := (w.g.take i).filter λ g => (ET w.b g.st : Int) == k
def in3 (a : BkI) : Shape := { α := Nat, dflt := 0, T := λ i => ⟨[(0, .bptr 100 0), (1, .int a.k), (5, .rptr 201 1 0 0), (15, .d (AS a.w.g)), (16, .int a.w.g.length), (17, .int i)], bkK a.w ++ [(201, CQU a.w a.k i)]⟩, inv := λ i => i <= a.w.g.length, meas := λ i => a.w.g.length - i, first := [(201, 2000)] }
structure GsK where
 i : Nat
 l : List Gau
 deriving Inhabited
def in9s (a : BkI) (i : Nat) : List (Nat × AVal) := [(5, .rptr 201 1 0 0), (39, .d (AS a.w.g)), (40, .int a.w.g.length), (41, .int i)]
def rowG (l : List Gau) : AObj := .row 3 l.length λ i => WG (gD l i)
def in9h (a : BkI) : List (Nat × HCell) := bkK a.w ++ [(201, CQU a.w a.k a.w.g.length)]
def in9n (a : BkI) : Shape := { α := Nat, dflt := 0, T := λ i => ⟨(8, .d Hr) :: in9s a i, in9h a⟩, inv := λ i => i <= a.w.g.length /\ UW a.w a.k i = [], meas := λ i => a.w.g.length - i }
def in9o (a : BkI) : Shape := { α := GsK, dflt := default, T := λ x => ⟨(8, .own 202 3 0 x.l.length) :: in9s a x.i, in9h a ++ [(202, .live (rowG x.l))]⟩, inv := λ x => x.i <= a.w.g.length /\ x.l = UW a.w a.k x.i, meas := λ x => a.w.g.length - x.i }
def CWY (a : BkI) (m : Nat) : Shape := { α := Nat, dflt := 0, T := λ i => ⟨(8, .d Hr) :: in9s a i, in9h a⟩, inv := λ i => i < a.w.g.length /\ a.w.g.length - i = m /\ UW a.w a.k (i + 1) = [], meas := λ i => 0 }
def CQR (a : BkI) (m : Nat) (f : List (Nat × Nat)) : Shape := { α := GsK, dflt := default, T := λ x => ⟨(8, .own 202 3 0 x.l.length) :: in9s a x.i, in9h a ++ [(202, .live (rowG x.l))]⟩, inv := λ x => x.i < a.w.g.length /\ a.w.g.length - x.i = m /\ x.l = UW a.w a.k (x.i + 1), meas := λ x => 0, first := f }
def C_inside : Ctr := { ro := [100, 101], α := BkI, xs := λ a => [.bptr 100 0, .int a.k], L := λ a => bkL a.w, val := λ a => .d (AS (KY a.w a.k)), keep := λ a => bkK a.w, pre := λ a => [GZ a.w.g a.w.b /\ True] }
def BMY (a : BkI) : Ann := { ann 55 [(BLD, C_part.spec dIX)] with E := [100, 101], mt := λ id => id == 12, loops := λ id => if id = 3 then some [in3 a] else if id = 9 then some [in9n a, in9o a] else none, cutIn := λ gs id => if id = 13 then some [CWY a (gs.getD 0 0), CQR a (gs.getD 0 0) [(202, 13048)], CQR a (gs.getD 0 0) []] else none }
def BLZ (a : BkI) : Prop := AN Try.prog (BMY a) AZS (AF AZS) (C_inside.xs a) (AC (C_inside.L a)) (C_inside.val a) (C_inside.keep a) [] [202]
abbrev CG : Prop := 0 = 0
abbrev BX (a : BkI) : Prop := a.w.g.length = a.w.g.length
abbrev lF (a : BkI) (i : Nat) : Prop := (gD a.w.g i).st = (gD a.w.g i).st
abbrev BV (a : BkI) : Prop := ∀ (i : Nat), i < a.w.g.length -> lF a i /\ (gD a.w.g i).lo = (gD a.w.g i).lo /\ (gD a.w.g i).hi = (gD a.w.g i).hi
abbrev FP (a : BkI) : Prop := (↑a.w.g.length : Int) = (↑a.w.g.length : Int)
abbrev Zd (a : Nat) : Prop := (↑a : Int) = 0
abbrev GW (a : BkI) : Prop := a.w.b.length = a.w.b.length
abbrev HA (a : BkI) : Prop := ∀ (i : Nat), i < a.w.b.length -> gD a.w.b i = gD a.w.b i
abbrev mR : Value := Value.slice none 0 0
abbrev GU : Prop := mR = mR
abbrev FL (a : BkI) : Prop := ∀ (n : Int), a.w.has n = a.w.has n
abbrev FJ (a : BkI) : Prop := ∀ (n : Int), a.w.st n = a.w.st n
abbrev FK (a : BkI) : Prop := ∀ (n : Int), (AK a.w n).length = (AK a.w n).length /\ ∀ (i : Nat), i < (AK a.w n).length -> (gD (AK a.w n) i).a0 = (gD (AK a.w n) i).a0 /\ (gD (AK a.w n) i).a1 = (gD (AK a.w n)
 i).a1 /\ (gD (AK a.w n) i).b0 = (gD (AK a.w n) i).b0 /\ (gD (AK a.w n) i).b1 = (gD (AK a.w n) i).b1
abbrev GM : Prop := 24 = 24
abbrev PB (i : Nat) (a : Nat) (a1 : BkI) : Bool := bif decide (i < a) then inA a1.w a1.k i else false
abbrev Pf (a : Nat) (a1 : BkI) : Prop := (↑a : Int) < (↑a1.w.g.length : Int)
abbrev Oi (a : Nat) (a1 : BkI) : Bool := decide (Pf a a1)
abbrev Jn (a : Nat) : Prop := 0 <= (↑a : Int)
abbrev Kk (a : Nat) (a1 : BkI) : Prop := Jn a /\ Pf a a1
abbrev QH (a : BkI) : List Int := AE a.w.b.length λ (i : Nat) => gD a.w.b i
abbrev VV (a : BkI) : Nat := (QH a).length
abbrev Ml (a : Nat) : Prop := (Jn a /\ (↑a : Int) < (↑24 : Int)) /\ a.succ.le 24
abbrev Kb (a : Nat) (a1 : Nat) : Prop := (↑a : Int) = IntKind.i64.wrap ((↑a1 : Int) + 1)
abbrev FN (a : BkI) (a1 : Nat) : Nat := a.w.g.length - a1
abbrev Ki (a : BkI) (a1 : Nat) (a2 : Nat) : Prop := FN a a1 < FN a a2
abbrev VI : Prop := ∀ (i : Nat), i < 0 -> false = false
abbrev VN (i : Nat) (a : BkI) : Bool := bif decide (i < a.w.g.length) then inA a.w a.k i else false
abbrev QC (a : Nat) (a1 : BkI) : Prop := a <= a1.w.g.length /\ UW a1.w a1.k a = []
abbrev VM : Prop := 0 < 1
abbrev Mm : Prop := 3 = 3
abbrev No : Prop := 1 <= 1 /\ (VM -> Mm)
abbrev Lz (a : GsK) : Prop := a.l.length = 1
abbrev PH (a : BkI) : Prop := ∀ (i : Nat), i < 24 -> VN i a = VN i a
abbrev VC (a : GsK) (a1 : BkI) : Prop := a.i < a1.w.g.length
abbrev FM (a : BkI) (a1 : GsK) : Nat := a.w.g.length - a1.i
abbrev Ob (a : GsK) (a1 : BkI) : Prop := a.l = UW a1.w a1.k (a.i + 1)
abbrev Pk (a : GsK) (a1 : BkI) (a2 : Nat) : Prop := VC a a1 /\ FM a1 a = FN a1 a2 /\ Ob a a1
abbrev Oe (a : BkI) : Prop := BX a /\ BV a /\ GW a /\ HA a /\ GU /\ FL a /\ FJ a /\ FK a /\ GM /\ PH a
abbrev Nk (a : BkI) (a1 : Nat) : Prop := UW a.w a.k (a1 + 1) = []
abbrev Mu (a : Nat) (a1 : BkI) (a2 : Nat) : Prop := a < a1.w.g.length /\ FN a1 a = FN a1 a2 /\ Nk a1 a
abbrev Jl (a : BkI) (a1 : Nat) (a2 : Nat) : Prop := CG /\ VI /\ CG /\ BX a /\ BV a /\ FP a /\ Kb a1 a2 /\ Oe a
abbrev VS (a : GsK) (a1 : GsK) : Prop := a.l.length = a1.l.length
abbrev Nx (a : BkI) (a1 : GsK) (a2 : GsK) : Prop := BX a /\ BV a /\ GW a /\ HA a /\ GU /\ FL a /\ FJ a /\ FK a /\ GM /\ PH a /\
 VS a1 a2 /\ ∀ (i : Nat), i < a1.l.length -> (gD a1.l i).st = (gD a2.l i).st /\ (gD a1.l i).lo = (gD a2.l i).lo /\ (gD a1.l i).hi = (gD a2.l i).hi
abbrev Kr (a : GsK) (a1 : GsK) (a2 : BkI) : Prop := CG /\ VS a a1 /\ CG /\ BX a2 /\ BV a2 /\ FP a2 /\ (↑a.i : Int) = IntKind.i64.wrap ((↑a1.i : Int) + 1) /\ Nx
 a2 a a1
abbrev VR (a : GsK) (a1 : BkI) : Prop := a.i <= a1.w.g.length /\ a.l = UW a1.w a1.k a.i
abbrev Ks (a : BkI) (a1 : Nat) : Prop := ∀ (a_1 : GsK), Pk a_1 a a1 -> ∃ (a_3 : GsK), Kr a_3 a_1 a /\ VR a_3 a /\ FM a a_3 < FN a a1
abbrev Og (a : BkI) : Prop := (KY a.w a.k).length = 0
abbrev Oy (a : BkI) : Prop := BX a /\ BV a /\ GW a /\ HA a /\ GU /\ FL a /\ FJ a /\ FK a
abbrev Jq (a : GsK) (a1 : BkI) : Prop := (↑a.i : Int) < (↑a1.w.g.length : Int)
abbrev Mv (a : GsK) : Prop := 0 <= (↑a.i : Int)
abbrev VD (a : GsK) : Nat := a.l.length + 1
abbrev Kc (a : GsK) (a1 : GsK) : Prop := a.l.length = VD a1
abbrev Jk (a : GsK) (a1 : GsK) : Prop := (↑a.i : Int) = (↑a1.i : Int)
abbrev UZ (i : Nat) (a : GsK) : Bool := decide (i < a.l.length)
abbrev VE (a : GsK) (a1 : BkI) (a2 : GsK) : Prop := VC a a1 /\ FM a1 a = FM a1 a2 /\ Ob a a1
abbrev Lk (a : BkI) (a1 : GsK) : Prop := ∀ (a_1 : GsK), VE a_1 a a1 -> ∃ (a_3 : GsK), Kr a_3 a_1 a /\ VR a_3 a /\ FM a a_3 < FM a a1
abbrev VB (a : GsK) (j : Nat) : Gau := gD a.l (0 + j)
theorem BXX (a : BkI) : (BLZ a) = ((Value.agg #[Value.bool false, Value.bool false, Value.bool false, Value.bool false, Value.bool false, Value.bool false, Value.bool false, Value.bool false, Value.bool false,
 Value.bool false, Value.bool false, Value.bool false, Value.bool false, Value.bool false, Value.bool false, Value.bool false, Value.bool false, Value.bool false, Value.bool false, Value.bool false, Value.bool false,
 Value.bool false, Value.bool false, Value.bool false]).cells.toList = (List.replicate 24 (Value.bool false).cells.toList).flatten /\ (∃ (a_1 : Nat), (a.k = a.k /\ CG /\ BX a /\ BV a /\ FP a /\
 Zd a_1 /\ BX a /\ BV a /\ GW a /\ HA a /\ GU /\ FL a /\ FJ a /\ FK a /\ GM /\ ∀ (i : Nat), i < 24 -> PB i a_1 a = false) /\ a_1.le
 a.w.g.length) /\ ∀ (a_1 : Nat), a_1.le a.w.g.length -> bif Oi a_1 a then Kk a_1 a /\ (VV a = a.w.b.length /\ (∀ (i : Nat), i < VV a -> gD (QH a) i = gD a.w.b i) /\ lF a a_1
 /\ (VV a < 4611686018427387904 /\ List.Pairwise (λ (x1 x2 : Int) => x1 < x2) (QH a)) /\ Ml a_1) /\ ∃ (a_3 : Nat), (a.k = a.k /\ CG /\ BX a /\ BV a /\ FP a /\
 Kb a_3 a_1 /\ BX a /\ BV a /\ GW a /\ HA a /\ GU /\ FL a /\ FJ a /\ FK a /\ GM /\ ∀ (i : Nat), i < 24 -> PB i a_3 a = bif decide (i =
 a_1) then (↑(ET (QH a) (gD a.w.g a_1).st) : Int) == a.k else PB i a_1 a) /\ a_3.le a.w.g.length /\ Ki a a_3 a_1 else (∃ (a_3 : Nat), (CG /\ VI /\ CG /\ BX a /\
 BV a /\ FP a /\ Zd a_3 /\ BX a /\ BV a /\ GW a /\ HA a /\ GU /\ FL a /\ FJ a /\ FK a /\ GM /\ ∀ (i : Nat), i < 24 -> VN i a
 = PB i a_1 a) /\ QC a_3 a) /\ (∀ (a_3 : Nat), QC a_3 a -> bif Oi a_3 a then (Kk a_3 a /\ Ml a_3 /\ bif bif decide (a_3 < a.w.g.length) then inA a.w a.k a_3 else false then
 ((True /\ (0 < 0 -> 0 = 3)) /\ No /\ (true = true -> VM) /\ 1 <= 9223372036854775807 /\ 24 <= 140737488355328) /\ ∃ (a_5 : GsK), (CG /\ Lz a_5 /\ CG /\ BX a /\ BV a /\
 FP a /\ (↑a_5.i : Int) = (↑a_3 : Int) /\ BX a /\ BV a /\ GW a /\ HA a /\ GU /\ FL a /\ FJ a /\ FK a /\ GM /\ PH a /\ Lz a_5 /\ ∀ (i
 : Nat), i < a_5.l.length -> (gD a_5.l i).st = (gD a.w.g a_3).st /\ (gD a_5.l i).lo = (gD a.w.g a_3).lo /\ (gD a_5.l i).hi = (gD a.w.g a_3).hi) /\ Pk a_5 a a_3 else ∃ (a_5 : Nat), (CG /\ VI /\
 CG /\ BX a /\ BV a /\ FP a /\ (↑a_5 : Int) = (↑a_3 : Int) /\ Oe a) /\ Mu a_5 a a_3) /\ (∀ (a_5 : Nat), Mu a_5 a a_3 -> ∃ (a_7 : Nat), Jl a a_7 a_5 /\ QC
 a_7 a /\ Ki a a_7 a_3) /\ Ks a a_3 /\ Ks a a_3 else Og a /\ Og a /\ Oy a) /\ ∀ (a_3 : GsK), VR a_3 a -> bif decide (Jq a_3 a) then ((Mv a_3 /\
 Jq a_3 a) /\ ((Mv a_3 /\ (↑a_3.i : Int) < (↑24 : Int)) /\ a_3.i.succ.le 24) /\ bif bif decide (VC a_3 a) then inA a.w a.k a_3.i else false then ((a_3.l.length = a_3.l.length /\ (0 < a_3.l.length ->
 Mm)) /\ No /\ (false = true -> VM) /\ VD a_3 <= 9223372036854775807 /\ VD a_3 * 24 <= 140737488355328) /\ ∃ (a_5 : GsK), (CG /\ Kc a_5 a_3 /\ CG /\ BX a
 /\ BV a /\ FP a /\ Jk a_5 a_3 /\ BX a /\ BV a /\ GW a /\ HA a /\ GU /\ FL a /\ FJ a /\ FK a /\ GM /\ PH a /\ Kc a_5
 a_3 /\ ∀ (i : Nat), i < a_5.l.length -> ((gD a_5.l i).st = bif UZ i a_3 then (gD a_3.l i).st else (gD a.w.g a_3.i).st) /\ ((gD a_5.l i).lo = bif UZ i a_3 then (gD a_3.l i).lo else (gD a.w.g a_3.i).lo) /\
 (gD a_5.l i).hi = bif UZ i a_3 then (gD a_3.l i).hi else (gD a.w.g a_3.i).hi) /\ VE a_5 a a_3 else ∃ (a_5 : GsK), (CG /\ VS a_5 a_3 /\ CG /\ BX a /\ BV a /\ FP
 a /\ Jk a_5 a_3 /\ Nx a a_5 a_3) /\ VE a_5 a a_3) /\ (∀ (a_5 : Nat), a_5 < a.w.g.length /\ FN a a_5 = FM a a_3 /\ Nk a a_5 -> ∃ (a_7 : Nat), Jl a a_7 a_5 /\
 QC a_7 a /\ FN a a_7 < FM a a_3) /\ Lk a a_3 /\ Lk a a_3 else (KY a.w a.k).length = a_3.l.length /\ 0 + a_3.l.length <= a_3.l.length /\ (∀ (j : Nat), j < (KY a.w a.k).length ->
 (gD (KY a.w a.k) j).st = (VB a_3 j).st /\ (gD (KY a.w a.k) j).lo = (VB a_3 j).lo /\ (gD (KY a.w a.k) j).hi = (VB a_3 j).hi) /\ Oy a) := by kernel_rfl
theorem Qx {w : Bk} {k : Int} {i : Nat} (h : i < w.g.length) : UW w k (i + 1) = if inA w k i = true then UW w k i ++ [gD w.g i] else UW w k i := by
 unfold UW
 rw [DF h, List.filter_append]
 unfold inA
 split
 ·rename_i h1; simp [List.filter_cons, h1]
 ·rename_i h1; simp [List.filter_cons, h1]
theorem BMS {w : Bk} {k : Int} {i : Nat} (h : w.g.length <= i) : UW w k i = KY w k := by unfold UW KY; rw [List.take_of_length_le h]
theorem BMC {w : Bk} {k : Int} {i : Nat} : (UW w k i).length <= w.g.length :=
 Nat.le_trans (List.length_filter_le _ _) (by simp; omega)
theorem BTF (l : List Gau) (p : Gau) (i : Nat) (hi : i < (l ++ [p]).length) : ((gD (l ++ [p]) i).st = bif decide (i < l.length) then (gD l i).st else p.st) /\ ((gD (l ++ [p]) i).lo = bif decide (i < l.length) then (gD l i).lo else p.lo) /\ (gD (l ++ [p]) i).hi = bif decide (i < l.length) then (gD l i).hi else p.hi := by
 rw [wG _ _ (by simpa using hi)]
 cases decide (i < l.length) <;> exact ⟨rfl, rfl, rfl⟩
theorem CFV (a : BkI) (h : GZ a.w.g a.w.b) : BLZ a := by
 rw [BXX]; delta CG BX lF BV FP Zd GW HA mR GU FL FJ FK GM PB Pf Oi Jn Kk QH VV Ml Kb FN Ki VI VN QC VM Mm No Lz PH VC FM Ob Pk Oe Nk Mu Jl VS Nx Kr VR Ks Og Oy Jq Mv VD Kc Jk UZ VE Lk VB; simp only [CC, eq_self, implies_true, forall_const]
 obtain ⟨hg, hgo, hb, hasc, hbr⟩ := h
 have cn : ∀ (m i : Nat), i < a.w.g.length /\ a.w.g.length - i = m /\ UW a.w a.k (i + 1) = [] -> ∃ j : Nat, (j : Int) = IntKind.i64.wrap ((i : Int) + 1) /\ (j <= a.w.g.length /\ UW a.w a.k j = []) /\ a.w.g.length - j < m := λ m i h => ⟨i + 1, (BF (by omega)).symm, ⟨h.1, h.2.2⟩, by omega⟩
 have co : ∀ (m : Nat) (x : GsK), x.i < a.w.g.length /\ a.w.g.length - x.i = m /\ x.l = UW a.w a.k (x.i + 1) -> ∃ y : GsK, (y.l.length = x.l.length /\ (y.i : Int) = IntKind.i64.wrap ((x.i : Int) + 1) /\ y.l.length = x.l.length /\ ∀ (i : Nat), i < y.l.length -> (gD y.l i).st = (gD x.l i).st /\ (gD y.l i).lo = (gD x.l i).lo /\ (gD y.l i).hi = (gD x.l i).hi) /\ (y.i <= a.w.g.length /\ y.l = UW a.w a.k y.i) /\ a.w.g.length - y.i < m := λ m x h => ⟨⟨x.i + 1, x.l⟩, ⟨rfl, (BF (by omega)).symm, rfl, λ _ _ => ⟨rfl, rfl, rfl⟩⟩, ⟨h.1, h.2.2⟩, by show a.w.g.length - (x.i + 1) < m; omega⟩
 have ne : ∀ (i : Nat), i < a.w.g.length -> UW a.w a.k i = [] -> inA a.w a.k i = false -> UW a.w a.k (i + 1) = [] := λ i hi h1 h2 => by
  rw [Qx hi, h2, h1]; simp
 refine ⟨rfl, ⟨0, ⟨rfl, λ i hi => by simp⟩, Nat.zero_le _⟩, λ i hi => ⟨λ hlt => ⟨⟨by omega, by omega⟩, ⟨⟨by omega, hasc⟩, ⟨by omega, by omega⟩, by omega⟩, i + 1, ⟨(BF (by omega)).symm, λ j hj => ?_⟩, by omega, by omega⟩, λ hge => ⟨⟨0, ⟨rfl, λ j hj => by rw [show i = a.w.g.length by omega]⟩, Nat.zero_le _, by simp [UW]⟩,
  λ i hi => ⟨λ hlt => ⟨⟨⟨by omega, by omega⟩, ⟨⟨by omega, by omega⟩, by omega⟩, λ hp => ⟨by simp, ⟨i, [gD a.w.g i]⟩, ⟨rfl, rfl, rfl, λ j hj => ?_⟩, Int.ofNat_lt.1 hlt, rfl, ?_⟩, λ hp => ⟨i, rfl, by omega, rfl, ne i (by omega) hi.2 ?_⟩⟩, cn _, co _⟩, λ hge => ?_⟩,
  λ x hx => ⟨λ hlt => ⟨⟨⟨by omega, by omega⟩, ⟨⟨by omega, by omega⟩, by omega⟩, λ hp => ⟨⟨by simp, by simp, ?_, ?_⟩, ⟨x.i, x.l ++ [gD a.w.g x.i]⟩, ⟨by simp, rfl, by simp, BTF _ _⟩, Int.ofNat_lt.1 hlt, rfl, ?_⟩, λ hp => ⟨⟨x.i, x.l⟩, ⟨rfl, rfl, rfl, λ _ _ => ⟨rfl, rfl, rfl⟩⟩, Int.ofNat_lt.1 hlt, rfl, ?_⟩⟩, cn _, co _⟩, λ hge => ?_⟩⟩⟩⟩
 ·by_cases h1 : j = i
  ·subst h1; simp [inA]
  ·by_cases h2 : j < i
   ·simp [h1, h2, show j < i + 1 by omega]
   ·simp [h1, h2, show ¬ j < i + 1 by omega]
 ·have : j = 0 := by have hj : j < 1 := hj; omega
  subst this; exact ⟨rfl, rfl, rfl⟩
 ·have hlt' : i < a.w.g.length := Int.ofNat_lt.1 hlt
  show [gD a.w.g i] = _
  rw [Qx hlt', hi.2, if_pos (by simpa [hlt'] using hp)]; rfl
 ·have hlt' : i < a.w.g.length := Int.ofNat_lt.1 hlt
  simpa [hlt'] using hp
 ·rw [<- BMS (i := i) (by omega), hi.2]; rfl
 ·have := BMC (w := a.w) (k := a.k) (i := x.i); rw [<- hx.2] at this; omega
 ·have := BMC (w := a.w) (k := a.k) (i := x.i); rw [<- hx.2] at this; omega
 ·show x.l ++ _ = _
  have hlt' : x.i < a.w.g.length := Int.ofNat_lt.1 hlt
  rw [Qx hlt', <- hx.2, if_pos (by simpa [hlt'] using hp)]
 ·show x.l = _
  have hlt' : x.i < a.w.g.length := Int.ofNat_lt.1 hlt
  rw [Qx hlt', <- hx.2, if_neg (by simpa [hlt'] using hp)]
 ·have e : x.l = KY a.w a.k := by rw [hx.2, BMS (by omega)]
  rw [e]; exact ⟨rfl, Nat.le_refl _, λ _ _ => ⟨rfl, rfl, rfl⟩⟩
theorem BBK : AG Try.prog AMY (C_inside.spec dBkI) := HR C_inside BMY [] [202] BYO (λ _ => by kernel_rfl) (λ _ => AB BGN AD) (λ (a : BkI) h => CFV a (show GZ a.w.g a.w.b /\ True from h).1) (λ _ => IN rfl rfl) _
def AR (w : Bk) (k : Int) : Span := ⟨bif decide (k > 0) then gD w.b (k - 1).toNat else 0, bif decide (k < w.b.length) then wr (gD w.b k.toNat - 1) else 2000⟩
def C_span : Ctr := { ro := [100, 101], α := BkI, xs := λ a => [.bptr 100 0, .int a.k], L := λ a => bkL a.w, val := λ a => .d (AFS (AR a.w a.k)), keep := λ a => bkK a.w, pre := λ a => [GZ a.w.g a.w.b /\ 0 <= a.k /\ a.k <= a.w.b.length] }
def CAL : Ann := { ann 38 [] with E := [100, 101] }
def CCK (a : BkI) : Prop := AN Try.prog CAL BPM (AF BPM) (C_span.xs a) (AC (C_span.L a)) (C_span.val a) (C_span.keep a) [] []
abbrev uC (a : BkI) : Int := IntKind.i64.wrap (a.k - 1)
abbrev AWC (a : BkI) : Prop := a.k < (↑a.w.b.length : Int)
abbrev BAH (a : BkI) : Bool := decide (AWC a)
abbrev BAI (a : BkI) : Prop := 0 <= a.k /\ AWC a
abbrev APO (a : BkI) : Prop := (AR a.w a.k).lo = gD a.w.b (uC a).toNat
abbrev ANL : Value := Value.slice none 0 0
abbrev AST (a : BkI) : Prop := a.w.g.length = a.w.g.length /\ (∀ (i : Nat), i < a.w.g.length -> (gD a.w.g i).st = (gD a.w.g i).st /\ (gD a.w.g i).lo = (gD a.w.g i).lo /\ (gD a.w.g i).hi = (gD a.w.g i).hi) /\ a.w.b.length
 = a.w.b.length /\ (∀ (i : Nat), i < a.w.b.length -> gD a.w.b i = gD a.w.b i) /\ ANL = ANL /\ (∀ (n : Int), a.w.has n = a.w.has n) /\ (∀ (n : Int), a.w.st n = a.w.st n) /\ ∀ (n : Int), (AK a.w n).length = (AK a.w
 n).length /\ ∀ (i : Nat), i < (AK a.w n).length -> (gD (AK a.w n) i).a0 = (gD (AK a.w n) i).a0 /\ (gD (AK a.w n) i).a1 = (gD (AK a.w n) i).a1 /\ (gD (AK a.w n) i).b0 = (gD (AK a.w n) i).b0 /\ (gD (AK a.w n) i).b1 =
 (gD (AK a.w n) i).b1
abbrev AMH (a : BkI) : Prop := (AR a.w a.k).hi = IntKind.i64.wrap (gD a.w.b a.k.toNat - 1) /\ AST a
abbrev AVT (a : BkI) : Prop := (AR a.w a.k).hi = 2000 /\ AST a
abbrev AVS (a : BkI) : Prop := (AR a.w a.k).lo = 0
theorem CKR (a : BkI) : (CCK a) = (bif decide (a.k > 0) then (0 <= uC a /\ uC a < (↑a.w.b.length : Int)) /\ bif BAH a then BAI a /\ APO a /\ AMH a else APO a /\ AVT a else bif
 BAH a then BAI a /\ AVS a /\ AMH a else AVS a /\ AVT a) := by kernel_rfl
theorem Yd : AG Try.prog ALE (C_span.spec dBkI) := HR C_span (λ _ => CAL) [] [] CNR (λ _ => by kernel_rfl) (λ _ => AD) (λ (a : BkI) h => by
 show CCK a; rw [CKR]; delta uC AWC BAH BAI APO ANL AST AMH AVT AVS; simp only [CC, eq_self, implies_true, forall_const]
 obtain ⟨⟨hg, hgo, hb, hasc, hbr⟩, h1, h2⟩ : GZ a.w.g a.w.b /\ 0 <= a.k /\ a.k <= a.w.b.length := h
 rw [EV (n := a.k - 1) (by omega) (by omega)]
 unfold AR wr
 refine ⟨λ h3 => ⟨by omega, λ h4 => ⟨by omega, ?_, ?_⟩, λ h4 => ⟨?_, ?_⟩⟩, λ h3 => ⟨λ h4 => ⟨by omega, ?_, ?_⟩, λ h4 => ⟨?_, ?_⟩⟩⟩ <;> simp [h3, h4]) (λ _ => IN rfl rfl) _
structure GB where
 g : List Gau
 b : List Int
def dGB : List AVal -> Heap -> Option (GB × List (Nat × Nat) × List Nat)
 | [x, y], H => match Bc x H, XT y H with
  | some (l, f), some (m, e) => some (⟨l, m⟩, [], f ++ e)
  | _, _ => none
 | _, _ => none
def xGB (a : GB) : List AVal := [.d (AS a.g), .d (BC a.b)]
def AH (a : GB) : Int := bif AQ a.g == 0 then DQ a.b else AQ a.g
def AP (a : GB) : Bk := ⟨a.g, a.b, λ _ => false, λ _ => 0⟩
def C_open : Ctr := { α := GB, xs := xGB, L := λ _ => [], val := λ _ => .tup [.bptr 0 0, .int 0], keep := λ a => [(0, .live (bkB (AP a) 1)), (1, .live (bkM (AP a)))], pre := λ a => [a.g.length < 4611686018427387904 /\ a.b.length < 4611686018427387904 /\ AH a = 0] }
def C_openX : Ctr := { α := GB, xs := xGB, L := λ _ => [], val := λ a => .tup [.d (.v (.pointer none)), .int (AH a)], keep := λ _ => [], pre := λ a => [a.g.length < 4611686018427387904 /\ a.b.length < 4611686018427387904 /\ AH a ≠ 0] }
def BEP : Ann := ann 22 [(vL, C_Check.spec JM), (APQ, C_checkB.spec dIs1)]
def CAG (a : GB) : Prop := AN Try.prog BEP Lt (AF Lt) (xGB a) (AC []) (C_open.val a) (C_open.keep a) [(0, 7080), (1, 7048)] []
theorem CLB (a : GB) : (CAG a) = (((AE a.g.length λ (i : Nat) => gD a.g i).length = a.g.length /\ (∀ (i : Nat), i < (AE a.g.length λ (i : Nat) => gD a.g i).length -> (gD (AE a.g.length λ (i : Nat) => gD a.g
 i) i).st = (gD a.g i).st /\ (gD (AE a.g.length λ (i : Nat) => gD a.g i) i).lo = (gD a.g i).lo /\ (gD (AE a.g.length λ (i : Nat) => gD a.g i) i).hi = (gD a.g i).hi) /\ (AE a.g.length λ (i : Nat) => gD a.g i).length
 < (4611686018427387904 : Nat) /\ True) /\ bif AQ (AE a.g.length λ (i : Nat) => gD a.g i) == (0 : Int) then ((AE a.b.length λ (i : Nat) => gD a.b i).length = a.b.length /\ (∀ (i : Nat), i < (AE a.b.length λ (i :
 Nat) => gD a.b i).length -> gD (AE a.b.length λ (i : Nat) => gD a.b i) i = gD a.b i) /\ (AE a.b.length λ (i : Nat) => gD a.b i).length < (4611686018427387904 : Nat) /\ True) /\ bif DQ (AE a.b.length λ (i : Nat)
 => gD a.b i) != (0 : Int) then False else Int.ofNat (0 : Nat) = Int.ofNat (0 : Nat) /\ (AP a).g.length = a.g.length /\ (∀ (i : Nat), i < (AP a).g.length -> (gD (AP a).g i).st = (gD a.g i).st /\ (gD (AP a).g i).lo =
 (gD a.g i).lo /\ (gD (AP a).g i).hi = (gD a.g i).hi) /\ (AP a).b.length = a.b.length /\ (∀ (i : Nat), i < (AP a).b.length -> gD (AP a).b i = gD a.b i) /\ Value.slice none (0 : Nat) (0 : Nat) = Value.slice none (0 :
 Nat) (0 : Nat) /\ (∀ (n : Int), false = false) /\ (∀ (n : Int), (AP a).st n = (0 : Int)) /\ ∀ (n : Int), (AK (AP a) n).length = (0 : Nat) /\ (AK (AP a) n).length = (0 : Nat) else bif AQ (AE a.g.length λ (i :
 Nat) => gD a.g i) != (0 : Int) then False else Int.ofNat (0 : Nat) = Int.ofNat (0 : Nat) /\ (AP a).g.length = a.g.length /\ (∀ (i : Nat), i < (AP a).g.length -> (gD (AP a).g i).st = (gD a.g i).st /\ (gD (AP a).g
 i).lo = (gD a.g i).lo /\ (gD (AP a).g i).hi = (gD a.g i).hi) /\ (AP a).b.length = a.b.length /\ (∀ (i : Nat), i < (AP a).b.length -> gD (AP a).b i = gD a.b i) /\ Value.slice none (0 : Nat) (0 : Nat) = Value.slice none
 (0 : Nat) (0 : Nat) /\ (∀ (n : Int), false = false) /\ (∀ (n : Int), (AP a).st n = (0 : Int)) /\ ∀ (n : Int), (AK (AP a) n).length = (0 : Nat) /\ (AK (AP a) n).length = (0 : Nat)) := by kernel_rfl
def BVV (a : GB) : Prop := AN Try.prog BEP Lt (AF Lt) (xGB a) (AC []) (C_openX.val a) [] [] []
theorem CJC (a : GB) : (BVV a) = (((AE a.g.length λ (i : Nat) => gD a.g i).length = a.g.length /\ (∀ (i : Nat), i < (AE a.g.length λ (i : Nat) => gD a.g i).length -> (gD (AE a.g.length λ (i : Nat) => gD
 a.g i) i).st = (gD a.g i).st /\ (gD (AE a.g.length λ (i : Nat) => gD a.g i) i).lo = (gD a.g i).lo /\ (gD (AE a.g.length λ (i : Nat) => gD a.g i) i).hi = (gD a.g i).hi) /\ (AE a.g.length λ (i : Nat) => gD a.g
 i).length < 4611686018427387904 /\ True) /\ bif AQ (AE a.g.length λ (i : Nat) => gD a.g i) == 0 then ((AE a.b.length λ (i : Nat) => gD a.b i).length = a.b.length /\ (∀ (i : Nat), i < (AE a.b.length λ (i : Nat)
 => gD a.b i).length -> gD (AE a.b.length λ (i : Nat) => gD a.b i) i = gD a.b i) /\ (AE a.b.length λ (i : Nat) => gD a.b i).length < 4611686018427387904 /\ True) /\ bif DQ (AE a.b.length λ (i : Nat) => gD a.b i)
 != 0 then Value.pointer none = Value.pointer none /\ AH a = DQ (AE a.b.length λ (i : Nat) => gD a.b i) else False else bif AQ (AE a.g.length λ (i : Nat) => gD a.g i) != 0 then Value.pointer none =
 Value.pointer none /\ AH a = AQ (AE a.g.length λ (i : Nat) => gD a.g i) else False) := by kernel_rfl
theorem xA : AG Try.prog QA (C_open.spec dGB) := HR C_open (λ _ => BEP) [(0, 7080), (1, 7048)] [] BBQ (λ _ => by kernel_rfl) (λ _ => AB vN (AB BBV AD)) (λ (a : GB) h => by
 show CAG a; rw [CLB]; simp only [CC, eq_self, implies_true, forall_const]
 obtain ⟨h1, h2, h3⟩ : a.g.length < 4611686018427387904 /\ a.b.length < 4611686018427387904 /\ AH a = 0 := h
 have key : (AP a).g.length = a.g.length /\ (∀ i : Nat, i < (AP a).g.length -> (gD (AP a).g i).st = (gD a.g i).st /\ (gD (AP a).g i).lo = (gD a.g i).lo /\ (gD (AP a).g i).hi = (gD a.g i).hi) /\ (AP a).b.length = a.b.length /\ (∀ i : Nat, i < (AP a).b.length -> gD (AP a).b i = gD a.b i) /\ (∀ n : Int, (AP a).st n = 0) /\ ∀ n : Int, (AK (AP a) n).length = 0 := ⟨rfl, λ _ _ => ⟨rfl, rfl, rfl⟩, rfl, λ _ _ => rfl, λ _ => rfl, λ _ => rfl⟩
 unfold AH at h3
 refine ⟨h1, λ h4 => ⟨h2, λ h5 => ?_, λ _ => key⟩, λ h4 => ⟨λ h5 => ?_, λ _ => key⟩⟩
 ·rw [h4] at h3; simp at h3 h5; exact h5 h3
 ·rw [h4] at h3; simp at h3 h5; exact h5 h3) (λ _ => IN rfl rfl) _
theorem oN : AG Try.prog QA (C_openX.spec dGB) := HR C_openX (λ _ => BEP) [] [] BBQ (λ _ => by kernel_rfl) (λ _ => AB vN (AB BBV AD)) (λ (a : GB) h => by
 show BVV a; rw [CJC]; simp only [CC, eq_self, implies_true, forall_const]
 obtain ⟨h1, h2, h3⟩ : a.g.length < 4611686018427387904 /\ a.b.length < 4611686018427387904 /\ AH a ≠ 0 := h
 refine ⟨h1, λ h4 => ⟨h2, λ h5 => ?_, λ h5 => h3 ?_⟩, λ h4 => ⟨λ h5 => ?_, λ h5 => h3 ?_⟩⟩
 ·unfold AH; rw [h4]; rfl
 ·unfold AH; rw [h4]; simpa using h5
 ·unfold AH; rw [h4]; rfl
 ·unfold AH; rw [h4]; simpa using h5) (λ _ => IN rfl rfl) _
end Go.Bal
