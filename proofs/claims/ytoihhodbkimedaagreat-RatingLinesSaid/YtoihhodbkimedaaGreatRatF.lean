/- Package rating: a book at work. -/
import Derived.Test.YtoihhodbkimedaaGreatRatD
set_option linter.unusedVariables false
set_option linter.unusedSimpArgs false
namespace Go.Bal
open Go Go.Sym Go.Proofs
structure Bk where
 g : List Gau
 b : List Int
 has : Int -> Bool
 st : Int -> Int
def NW (w : Bk) (k : Int) : List Gau := w.g.filter λ g => (FA w.b g.st : Int) == k
def EU (s : List Gau) : List Ln := (Ec s).filter (JF s)
def AI (w : Bk) (j : Int) : List Ln := bif w.has j then EU (NW w j) else []
def bkB (w : Bk) (m : Nat) : AObj := .box [.d (BE w.g), .d (BD w.b), .mref m]
def bkM (w : Bk) : AObj := .imap .i64 (.slice none 0 0) w.has (λ j => XW (AI w j)) w.st none
def bkL (w : Bk) : List (Nat × AObj) := [(100, bkB w 101), (101, bkM w)]
def bkK (w : Bk) : List (Nat × HCell) := [(100, .live (bkB w 101)), (101, .live (bkM w))]
def GP (g : List Gau) (b : List Int) : Prop := g.length <= 24 /\ (∀ x ∈ g, Dd x) /\ b.length <= 24 /\ asc b /\ ∀ x ∈ b, 1 <= x /\ x <= 2000
def AKG (H : Heap) (id : Nat) : Option (Bk × Nat) := match H id with
 | .live (.box [.d (.list _ n g _), .d (.list _ m b _), .mref q]) => match H q with
  | .live (.imap _ _ has _ st _) => some (⟨AD n λ i => SD (g i), AD m λ i => CT (b i), has, st⟩, q)
  | _ => none
 | _ => none
structure BkI where
 w : Bk
 k : Int
def dBkI : List AVal -> Heap -> Option (BkI × List (Nat × Nat) × List Nat)
 | [.bptr id _, .d k], H => match AKG H id with
  | some (w, q) => some (⟨w, CT k⟩, [(100, id), (101, q)], [])
  | none => none
 | _, _ => none
def inA (w : Bk) (k : Int) (i : Nat) : Bool := (FA w.b (gD w.g i).st : Int) == k
def BRS (w : Bk) (k : Int) (m : Nat) : HCell := .live (.row 1 24 λ j => BWT (bif decide (j < m) then inA w k j else false))
def SE (w : Bk) (k : Int) (i : Nat) : List Gau := (w.g.take i).filter λ g => (FA w.b g.st : Int) == k
def in3 (a : BkI) : Shape := { α := Nat, dflt := 0, T := λ i => ⟨[(0, .bptr 100 0), (1, .int a.k), (5, .rptr 201 1 0 0), (15, .d (BE a.w.g)), (16, .int a.w.g.length), (17, .int i)], bkK a.w ++ [(201, BRS a.w a.k i)]⟩, inv := λ i => i <= a.w.g.length, meas := λ i => a.w.g.length - i, first := [(201, 2000)] }
structure GsK where
 i : Nat
 l : List Gau
 deriving Inhabited
def in9s (a : BkI) (i : Nat) : List (Nat × AVal) := [(5, .rptr 201 1 0 0), (39, .d (BE a.w.g)), (40, .int a.w.g.length), (41, .int i)]
def rowG (l : List Gau) : AObj := .row 3 l.length λ i => uX (gD l i)
def in9h (a : BkI) : List (Nat × HCell) := bkK a.w ++ [(201, BRS a.w a.k a.w.g.length)]
def in9n (a : BkI) : Shape := { α := Nat, dflt := 0, T := λ i => ⟨(8, .d PQ) :: in9s a i, in9h a⟩, inv := λ i => i <= a.w.g.length /\ SE a.w a.k i = [], meas := λ i => a.w.g.length - i }
def in9o (a : BkI) : Shape := { α := GsK, dflt := default, T := λ x => ⟨(8, .own 202 3 0 x.l.length) :: in9s a x.i, in9h a ++ [(202, .live (rowG x.l))]⟩, inv := λ x => x.i <= a.w.g.length /\ x.l = SE a.w a.k x.i, meas := λ x => a.w.g.length - x.i }
def BXU (a : BkI) (m : Nat) : Shape := { α := Nat, dflt := 0, T := λ i => ⟨(8, .d PQ) :: in9s a i, in9h a⟩, inv := λ i => i < a.w.g.length /\ a.w.g.length - i = m /\ SE a.w a.k (i + 1) = [], meas := λ i => 0 }
def BSH (a : BkI) (m : Nat) (f : List (Nat × Nat)) : Shape := { α := GsK, dflt := default, T := λ x => ⟨(8, .own 202 3 0 x.l.length) :: in9s a x.i, in9h a ++ [(202, .live (rowG x.l))]⟩, inv := λ x => x.i < a.w.g.length /\ a.w.g.length - x.i = m /\ x.l = SE a.w a.k (x.i + 1), meas := λ x => 0, first := f }
def C_inside : Ctr := { ro := [100, 101], α := BkI, xs := λ a => [.bptr 100 0, .int a.k], L := λ a => bkL a.w, val := λ a => .d (BE (NW a.w a.k)), keep := λ a => bkK a.w, pre := λ a => [GP a.w.g a.w.b /\ True] }
def ASU (a : BkI) : Ann := { ann 55 [(yQ, C_part.spec dIX)] with E := [100, 101], mt := λ id => id == 12, loops := λ id => if id = 3 then some [in3 a] else if id = 9 then some [in9n a, in9o a] else none, cutIn := λ gs id => if id = 13 then some [BXU a (gs.getD 0 0), BSH a (gs.getD 0 0) [(202, 13048)], BSH a (gs.getD 0 0) []] else none }
def AUF (a : BkI) : Prop := AO Try.prog (ASU a) T6 (AF T6) (C_inside.xs a) (AC (C_inside.L a)) (C_inside.val a) (C_inside.keep a) [] [202]
abbrev BW : Prop := 0 = 0
abbrev BR (a : BkI) : Prop := a.w.g.length = a.w.g.length
abbrev Wo (a : BkI) (i : Nat) : Prop := (gD a.w.g i).st = (gD a.w.g i).st
abbrev BQ (a : BkI) : Prop := ∀ (i : Nat), i < a.w.g.length -> Wo a i /\ (gD a.w.g i).lo = (gD a.w.g i).lo /\ (gD a.w.g i).hi = (gD a.w.g i).hi
abbrev ES (a : BkI) : Prop := (↑a.w.g.length : Int) = (↑a.w.g.length : Int)
abbrev Vh (a : Nat) : Prop := (↑a : Int) = 0
abbrev FP (a : BkI) : Prop := a.w.b.length = a.w.b.length
abbrev FL (a : BkI) : Prop := ∀ (i : Nat), i < a.w.b.length -> gD a.w.b i = gD a.w.b i
abbrev Zq : Value := Value.slice none 0 0
abbrev FN : Prop := Zq = Zq
abbrev EN (a : BkI) : Prop := ∀ (n : Int), a.w.has n = a.w.has n
abbrev EH (a : BkI) : Prop := ∀ (n : Int), a.w.st n = a.w.st n
abbrev EM (a : BkI) : Prop := ∀ (n : Int), (AI a.w n).length = (AI a.w n).length /\ ∀ (i : Nat), i < (AI a.w n).length -> (gD (AI a.w n) i).a0 = (gD (AI a.w n) i).a0 /\ (gD (AI a.w n) i).a1 = (gD (AI a.w n)
 i).a1 /\ (gD (AI a.w n) i).b0 = (gD (AI a.w n) i).b0 /\ (gD (AI a.w n) i).b1 = (gD (AI a.w n) i).b1
abbrev FC : Prop := 24 = 24
abbrev OB (i : Nat) (a : Nat) (a1 : BkI) : Bool := bif decide (i < a) then inA a1.w a1.k i else false
abbrev Gu (a : Nat) (a1 : BkI) : Prop := (↑a : Int) < (↑a1.w.g.length : Int)
abbrev Jh (a : Nat) (a1 : BkI) : Bool := decide (Gu a a1)
abbrev Fs (a : Nat) : Prop := 0 <= (↑a : Int)
abbrev Gt (a : Nat) (a1 : BkI) : Prop := Fs a /\ Gu a a1
abbrev OA (a : BkI) : List Int := AD a.w.b.length λ (i : Nat) => gD a.w.b i
abbrev TF (a : BkI) : Nat := (OA a).length
abbrev Iu (a : Nat) : Prop := (Fs a /\ (↑a : Int) < (↑24 : Int)) /\ a.succ.le 24
abbrev Kk (a : Nat) (a1 : Nat) : Prop := (↑a : Int) = IntKind.i64.wrap ((↑a1 : Int) + 1)
abbrev EK (a : BkI) (a1 : Nat) : Nat := a.w.g.length - a1
abbrev Hc (a : BkI) (a1 : Nat) (a2 : Nat) : Prop := EK a a1 < EK a a2
abbrev TI : Prop := ∀ (i : Nat), i < 0 -> false = false
abbrev SW (i : Nat) (a : BkI) : Bool := bif decide (i < a.w.g.length) then inA a.w a.k i else false
abbrev NL (a : Nat) (a1 : BkI) : Prop := a <= a1.w.g.length /\ SE a1.w a1.k a = []
abbrev TA : Prop := 0 < 1
abbrev Ib : Prop := 3 = 3
abbrev Jd : Prop := 1 <= 1 /\ (TA -> Ib)
abbrev Hw (a : GsK) : Prop := a.l.length = 1
abbrev NR (a : BkI) : Prop := ∀ (i : Nat), i < 24 -> SW i a = SW i a
abbrev SP (a : GsK) (a1 : BkI) : Prop := a.i < a1.w.g.length
abbrev EI (a : BkI) (a1 : GsK) : Nat := a.w.g.length - a1.i
abbrev Jp (a : GsK) (a1 : BkI) : Prop := a.l = SE a1.w a1.k (a.i + 1)
abbrev Ii (a : GsK) (a1 : BkI) (a2 : Nat) : Prop := SP a a1 /\ EI a1 a = EK a1 a2 /\ Jp a a1
abbrev Ew (a : BkI) : Prop := BR a /\ BQ a /\ FP a /\ FL a /\ FN /\ EN a /\ EH a /\ EM a /\ FC /\ NR a
abbrev Gb (a : BkI) (a1 : Nat) : Prop := SE a.w a.k (a1 + 1) = []
abbrev Hb (a : Nat) (a1 : BkI) (a2 : Nat) : Prop := a < a1.w.g.length /\ EK a1 a = EK a1 a2 /\ Gb a1 a
abbrev Kl (a : BkI) (a1 : Nat) (a2 : Nat) : Prop := BW /\ TI /\ BW /\ BR a /\ BQ a /\ ES a /\ Kk a1 a2 /\ Ew a
abbrev SU (a : GsK) (a1 : GsK) : Prop := a.l.length = a1.l.length
abbrev Ja (a : BkI) (a1 : GsK) (a2 : GsK) : Prop := BR a /\ BQ a /\ FP a /\ FL a /\ FN /\ EN a /\ EH a /\ EM a /\ FC /\ NR a /\
 SU a1 a2 /\ ∀ (i : Nat), i < a1.l.length -> (gD a1.l i).st = (gD a2.l i).st /\ (gD a1.l i).lo = (gD a2.l i).lo /\ (gD a1.l i).hi = (gD a2.l i).hi
abbrev Hu (a : GsK) (a1 : GsK) (a2 : BkI) : Prop := BW /\ SU a a1 /\ BW /\ BR a2 /\ BQ a2 /\ ES a2 /\ (↑a.i : Int) = IntKind.i64.wrap ((↑a1.i : Int) + 1) /\ Ja
 a2 a a1
abbrev TE (a : GsK) (a1 : BkI) : Prop := a.i <= a1.w.g.length /\ a.l = SE a1.w a1.k a.i
abbrev Gp (a : BkI) (a1 : Nat) : Prop := ∀ (a_1 : GsK), Ii a_1 a a1 -> ∃ (a_3 : GsK), Hu a_3 a_1 a /\ TE a_3 a /\ EI a a_3 < EK a a1
abbrev Fr (a : BkI) : Prop := (NW a.w a.k).length = 0
abbrev Iy (a : BkI) : Prop := BR a /\ BQ a /\ FP a /\ FL a /\ FN /\ EN a /\ EH a /\ EM a
abbrev Ei (a : GsK) (a1 : BkI) : Prop := (↑a.i : Int) < (↑a1.w.g.length : Int)
abbrev Fu (a : GsK) : Prop := 0 <= (↑a.i : Int)
abbrev SI (a : GsK) : Nat := a.l.length + 1
abbrev Jr (a : GsK) (a1 : GsK) : Prop := a.l.length = SI a1
abbrev Fz (a : GsK) (a1 : GsK) : Prop := (↑a.i : Int) = (↑a1.i : Int)
abbrev SQ (i : Nat) (a : GsK) : Bool := decide (i < a.l.length)
abbrev SY (a : GsK) (a1 : BkI) (a2 : GsK) : Prop := SP a a1 /\ EI a1 a = EI a1 a2 /\ Jp a a1
abbrev Eh (a : BkI) (a1 : GsK) : Prop := ∀ (a_1 : GsK), SY a_1 a a1 -> ∃ (a_3 : GsK), Hu a_3 a_1 a /\ TE a_3 a /\ EI a a_3 < EI a a1
abbrev TC (a : GsK) (j : Nat) : Gau := gD a.l (0 + j)
theorem BDI (a : BkI) : (AUF a) = ((Value.agg #[Value.bool false, Value.bool false, Value.bool false, Value.bool false, Value.bool false, Value.bool false, Value.bool false, Value.bool false, Value.bool false,
 Value.bool false, Value.bool false, Value.bool false, Value.bool false, Value.bool false, Value.bool false, Value.bool false, Value.bool false, Value.bool false, Value.bool false, Value.bool false, Value.bool false,
 Value.bool false, Value.bool false, Value.bool false]).cells.toList = (List.replicate 24 (Value.bool false).cells.toList).flatten /\ (∃ (a_1 : Nat), (a.k = a.k /\ BW /\ BR a /\ BQ a /\ ES a /\
 Vh a_1 /\ BR a /\ BQ a /\ FP a /\ FL a /\ FN /\ EN a /\ EH a /\ EM a /\ FC /\ ∀ (i : Nat), i < 24 -> OB i a_1 a = false) /\ a_1.le
 a.w.g.length) /\ ∀ (a_1 : Nat), a_1.le a.w.g.length -> bif Jh a_1 a then Gt a_1 a /\ (TF a = a.w.b.length /\ (∀ (i : Nat), i < TF a -> gD (OA a) i = gD a.w.b i) /\ Wo a a_1
 /\ (TF a < 4611686018427387904 /\ List.Pairwise (λ (x1 x2 : Int) => x1 < x2) (OA a)) /\ Iu a_1) /\ ∃ (a_3 : Nat), (a.k = a.k /\ BW /\ BR a /\ BQ a /\ ES a /\
 Kk a_3 a_1 /\ BR a /\ BQ a /\ FP a /\ FL a /\ FN /\ EN a /\ EH a /\ EM a /\ FC /\ ∀ (i : Nat), i < 24 -> OB i a_3 a = bif decide (i =
 a_1) then (↑(FA (OA a) (gD a.w.g a_1).st) : Int) == a.k else OB i a_1 a) /\ a_3.le a.w.g.length /\ Hc a a_3 a_1 else (∃ (a_3 : Nat), (BW /\ TI /\ BW /\ BR a /\
 BQ a /\ ES a /\ Vh a_3 /\ BR a /\ BQ a /\ FP a /\ FL a /\ FN /\ EN a /\ EH a /\ EM a /\ FC /\ ∀ (i : Nat), i < 24 -> SW i a
 = OB i a_1 a) /\ NL a_3 a) /\ (∀ (a_3 : Nat), NL a_3 a -> bif Jh a_3 a then (Gt a_3 a /\ Iu a_3 /\ bif bif decide (a_3 < a.w.g.length) then inA a.w a.k a_3 else false then
 ((True /\ (0 < 0 -> 0 = 3)) /\ Jd /\ (true = true -> TA) /\ 1 <= 9223372036854775807 /\ 24 <= 140737488355328) /\ ∃ (a_5 : GsK), (BW /\ Hw a_5 /\ BW /\ BR a /\ BQ a /\
 ES a /\ (↑a_5.i : Int) = (↑a_3 : Int) /\ BR a /\ BQ a /\ FP a /\ FL a /\ FN /\ EN a /\ EH a /\ EM a /\ FC /\ NR a /\ Hw a_5 /\ ∀ (i
 : Nat), i < a_5.l.length -> (gD a_5.l i).st = (gD a.w.g a_3).st /\ (gD a_5.l i).lo = (gD a.w.g a_3).lo /\ (gD a_5.l i).hi = (gD a.w.g a_3).hi) /\ Ii a_5 a a_3 else ∃ (a_5 : Nat), (BW /\ TI /\
 BW /\ BR a /\ BQ a /\ ES a /\ (↑a_5 : Int) = (↑a_3 : Int) /\ Ew a) /\ Hb a_5 a a_3) /\ (∀ (a_5 : Nat), Hb a_5 a a_3 -> ∃ (a_7 : Nat), Kl a a_7 a_5 /\ NL
 a_7 a /\ Hc a a_7 a_3) /\ Gp a a_3 /\ Gp a a_3 else Fr a /\ Fr a /\ Iy a) /\ ∀ (a_3 : GsK), TE a_3 a -> bif decide (Ei a_3 a) then ((Fu a_3 /\
 Ei a_3 a) /\ ((Fu a_3 /\ (↑a_3.i : Int) < (↑24 : Int)) /\ a_3.i.succ.le 24) /\ bif bif decide (SP a_3 a) then inA a.w a.k a_3.i else false then ((a_3.l.length = a_3.l.length /\ (0 < a_3.l.length ->
 Ib)) /\ Jd /\ (false = true -> TA) /\ SI a_3 <= 9223372036854775807 /\ SI a_3 * 24 <= 140737488355328) /\ ∃ (a_5 : GsK), (BW /\ Jr a_5 a_3 /\ BW /\ BR a
 /\ BQ a /\ ES a /\ Fz a_5 a_3 /\ BR a /\ BQ a /\ FP a /\ FL a /\ FN /\ EN a /\ EH a /\ EM a /\ FC /\ NR a /\ Jr a_5
 a_3 /\ ∀ (i : Nat), i < a_5.l.length -> ((gD a_5.l i).st = bif SQ i a_3 then (gD a_3.l i).st else (gD a.w.g a_3.i).st) /\ ((gD a_5.l i).lo = bif SQ i a_3 then (gD a_3.l i).lo else (gD a.w.g a_3.i).lo) /\
 (gD a_5.l i).hi = bif SQ i a_3 then (gD a_3.l i).hi else (gD a.w.g a_3.i).hi) /\ SY a_5 a a_3 else ∃ (a_5 : GsK), (BW /\ SU a_5 a_3 /\ BW /\ BR a /\ BQ a /\ ES
 a /\ Fz a_5 a_3 /\ Ja a a_5 a_3) /\ SY a_5 a a_3) /\ (∀ (a_5 : Nat), a_5 < a.w.g.length /\ EK a a_5 = EI a a_3 /\ Gb a a_5 -> ∃ (a_7 : Nat), Kl a a_7 a_5 /\
 NL a_7 a /\ EK a a_7 < EI a a_3) /\ Eh a a_3 /\ Eh a a_3 else (NW a.w a.k).length = a_3.l.length /\ 0 + a_3.l.length <= a_3.l.length /\ (∀ (j : Nat), j < (NW a.w a.k).length ->
 (gD (NW a.w a.k) j).st = (TC a_3 j).st /\ (gD (NW a.w a.k) j).lo = (TC a_3 j).lo /\ (gD (NW a.w a.k) j).hi = (TC a_3 j).hi) /\ Iy a) := by kernel_rfl
theorem Lt {w : Bk} {k : Int} {i : Nat} (h : i < w.g.length) : SE w k (i + 1) = if inA w k i = true then SE w k i ++ [gD w.g i] else SE w k i := by
 unfold SE
 rw [DG h, List.filter_append]
 unfold inA
 split
 ·rename_i h1; simp [List.filter_cons, h1]
 ·rename_i h1; simp [List.filter_cons, h1]
theorem AUB {w : Bk} {k : Int} {i : Nat} (h : w.g.length <= i) : SE w k i = NW w k := by unfold SE NW; rw [List.take_of_length_le h]
theorem AUG {w : Bk} {k : Int} {i : Nat} : (SE w k i).length <= w.g.length :=
 Nat.le_trans (List.length_filter_le _ _) (by simp; omega)
theorem BGW (l : List Gau) (p : Gau) (i : Nat) (hi : i < (l ++ [p]).length) : ((gD (l ++ [p]) i).st = bif decide (i < l.length) then (gD l i).st else p.st) /\ ((gD (l ++ [p]) i).lo = bif decide (i < l.length) then (gD l i).lo else p.lo) /\ (gD (l ++ [p]) i).hi = bif decide (i < l.length) then (gD l i).hi else p.hi := by
 rw [eG _ _ (by simpa using hi)]
 cases decide (i < l.length) <;> exact ⟨rfl, rfl, rfl⟩
theorem BLB (a : BkI) (h : GP a.w.g a.w.b) : AUF a := by
 rw [BDI]; delta BW BR Wo BQ ES Vh FP FL Zq FN EN EH EM FC OB Gu Jh Fs Gt OA TF Iu Kk EK Hc TI SW NL TA Ib Jd Hw NR SP EI Jp Ii Ew Gb Hb Kl SU Ja Hu TE Gp Fr Iy Ei Fu SI Jr Fz SQ SY Eh TC; simp only [CC, eq_self, implies_true, forall_const]
 obtain ⟨hg, hgo, hb, hasc, hbr⟩ := h
 have cn : ∀ (m i : Nat), i < a.w.g.length /\ a.w.g.length - i = m /\ SE a.w a.k (i + 1) = [] -> ∃ j : Nat, (j : Int) = IntKind.i64.wrap ((i : Int) + 1) /\ (j <= a.w.g.length /\ SE a.w a.k j = []) /\ a.w.g.length - j < m := λ m i h => ⟨i + 1, (BH (by omega)).symm, ⟨h.1, h.2.2⟩, by omega⟩
 have co : ∀ (m : Nat) (x : GsK), x.i < a.w.g.length /\ a.w.g.length - x.i = m /\ x.l = SE a.w a.k (x.i + 1) -> ∃ y : GsK, (y.l.length = x.l.length /\ (y.i : Int) = IntKind.i64.wrap ((x.i : Int) + 1) /\ y.l.length = x.l.length /\ ∀ (i : Nat), i < y.l.length -> (gD y.l i).st = (gD x.l i).st /\ (gD y.l i).lo = (gD x.l i).lo /\ (gD y.l i).hi = (gD x.l i).hi) /\ (y.i <= a.w.g.length /\ y.l = SE a.w a.k y.i) /\ a.w.g.length - y.i < m := λ m x h => ⟨⟨x.i + 1, x.l⟩, ⟨rfl, (BH (by omega)).symm, rfl, λ _ _ => ⟨rfl, rfl, rfl⟩⟩, ⟨h.1, h.2.2⟩, by show a.w.g.length - (x.i + 1) < m; omega⟩
 have ne : ∀ (i : Nat), i < a.w.g.length -> SE a.w a.k i = [] -> inA a.w a.k i = false -> SE a.w a.k (i + 1) = [] := λ i hi h1 h2 => by
  rw [Lt hi, h2, h1]; simp
 refine ⟨rfl, ⟨0, ⟨rfl, λ i hi => by simp⟩, Nat.zero_le _⟩, λ i hi => ⟨λ hlt => ⟨⟨by omega, by omega⟩, ⟨⟨by omega, hasc⟩, ⟨by omega, by omega⟩, by omega⟩, i + 1, ⟨(BH (by omega)).symm, λ j hj => ?_⟩, by omega, by omega⟩, λ hge => ⟨⟨0, ⟨rfl, λ j hj => by rw [show i = a.w.g.length by omega]⟩, Nat.zero_le _, by simp [SE]⟩,
  λ i hi => ⟨λ hlt => ⟨⟨⟨by omega, by omega⟩, ⟨⟨by omega, by omega⟩, by omega⟩, λ hp => ⟨by simp, ⟨i, [gD a.w.g i]⟩, ⟨rfl, rfl, rfl, λ j hj => ?_⟩, Int.ofNat_lt.1 hlt, rfl, ?_⟩, λ hp => ⟨i, rfl, by omega, rfl, ne i (by omega) hi.2 ?_⟩⟩, cn _, co _⟩, λ hge => ?_⟩,
  λ x hx => ⟨λ hlt => ⟨⟨⟨by omega, by omega⟩, ⟨⟨by omega, by omega⟩, by omega⟩, λ hp => ⟨⟨by simp, by simp, ?_, ?_⟩, ⟨x.i, x.l ++ [gD a.w.g x.i]⟩, ⟨by simp, rfl, by simp, BGW _ _⟩, Int.ofNat_lt.1 hlt, rfl, ?_⟩, λ hp => ⟨⟨x.i, x.l⟩, ⟨rfl, rfl, rfl, λ _ _ => ⟨rfl, rfl, rfl⟩⟩, Int.ofNat_lt.1 hlt, rfl, ?_⟩⟩, cn _, co _⟩, λ hge => ?_⟩⟩⟩⟩
 ·by_cases h1 : j = i
  ·subst h1; simp [inA]
  ·by_cases h2 : j < i
   ·simp [h1, h2, show j < i + 1 by omega]
   ·simp [h1, h2, show ¬ j < i + 1 by omega]
 ·have : j = 0 := by have hj : j < 1 := hj; omega
  subst this; exact ⟨rfl, rfl, rfl⟩
 ·have hlt' : i < a.w.g.length := Int.ofNat_lt.1 hlt
  show [gD a.w.g i] = _
  rw [Lt hlt', hi.2, if_pos (by simpa [hlt'] using hp)]; rfl
 ·have hlt' : i < a.w.g.length := Int.ofNat_lt.1 hlt
  simpa [hlt'] using hp
 ·rw [<- AUB (i := i) (by omega), hi.2]; rfl
 ·have := AUG (w := a.w) (k := a.k) (i := x.i); rw [<- hx.2] at this; omega
 ·have := AUG (w := a.w) (k := a.k) (i := x.i); rw [<- hx.2] at this; omega
 ·show x.l ++ _ = _
  have hlt' : x.i < a.w.g.length := Int.ofNat_lt.1 hlt
  rw [Lt hlt', <- hx.2, if_pos (by simpa [hlt'] using hp)]
 ·show x.l = _
  have hlt' : x.i < a.w.g.length := Int.ofNat_lt.1 hlt
  rw [Lt hlt', <- hx.2, if_neg (by simpa [hlt'] using hp)]
 ·have e : x.l = NW a.w a.k := by rw [hx.2, AUB (by omega)]
  rw [e]; exact ⟨rfl, Nat.le_refl _, λ _ _ => ⟨rfl, rfl, rfl⟩⟩
theorem AJY : AG Try.prog AIQ (C_inside.spec dBkI) := GD C_inside ASU [] [202] BCS (λ _ => by kernel_rfl) (λ _ => AB iG AE) (λ (a : BkI) h => BLB a (show GP a.w.g a.w.b /\ True from h).1) (λ _ => GJ rfl rfl) _
def AP (w : Bk) (k : Int) : Span := ⟨bif decide (k > 0) then gD w.b (k - 1).toNat else 0, bif decide (k < w.b.length) then wr (gD w.b k.toNat - 1) else 2000⟩
def C_span : Ctr := { ro := [100, 101], α := BkI, xs := λ a => [.bptr 100 0, .int a.k], L := λ a => bkL a.w, val := λ a => .d (AKC (AP a.w a.k)), keep := λ a => bkK a.w, pre := λ a => [GP a.w.g a.w.b /\ 0 <= a.k /\ a.k <= a.w.b.length] }
def BKG : Ann := { ann 38 [] with E := [100, 101] }
def BGT (a : BkI) : Prop := AO Try.prog BKG AVG (AF AVG) (C_span.xs a) (AC (C_span.L a)) (C_span.val a) (C_span.keep a) [] []
abbrev hC (a : BkI) : Int := IntKind.i64.wrap (a.k - 1)
abbrev AEO (a : BkI) : Prop := a.k < (↑a.w.b.length : Int)
abbrev ACD (a : BkI) : Bool := decide (AEO a)
abbrev ABQ (a : BkI) : Prop := 0 <= a.k /\ AEO a
abbrev AGJ (a : BkI) : Prop := (AP a.w a.k).lo = gD a.w.b (hC a).toNat
abbrev AGO : Value := Value.slice none 0 0
abbrev AEM (a : BkI) : Prop := a.w.g.length = a.w.g.length /\ (∀ (i : Nat), i < a.w.g.length -> (gD a.w.g i).st = (gD a.w.g i).st /\ (gD a.w.g i).lo = (gD a.w.g i).lo /\ (gD a.w.g i).hi = (gD a.w.g i).hi) /\ a.w.b.length
 = a.w.b.length /\ (∀ (i : Nat), i < a.w.b.length -> gD a.w.b i = gD a.w.b i) /\ AGO = AGO /\ (∀ (n : Int), a.w.has n = a.w.has n) /\ (∀ (n : Int), a.w.st n = a.w.st n) /\ ∀ (n : Int), (AI a.w n).length = (AI a.w
 n).length /\ ∀ (i : Nat), i < (AI a.w n).length -> (gD (AI a.w n) i).a0 = (gD (AI a.w n) i).a0 /\ (gD (AI a.w n) i).a1 = (gD (AI a.w n) i).a1 /\ (gD (AI a.w n) i).b0 = (gD (AI a.w n) i).b0 /\ (gD (AI a.w n) i).b1 =
 (gD (AI a.w n) i).b1
abbrev AFN (a : BkI) : Prop := (AP a.w a.k).hi = IntKind.i64.wrap (gD a.w.b a.k.toNat - 1) /\ AEM a
abbrev AFI (a : BkI) : Prop := (AP a.w a.k).hi = 2000 /\ AEM a
abbrev AIA (a : BkI) : Prop := (AP a.w a.k).lo = 0
theorem BOR (a : BkI) : (BGT a) = (bif decide (a.k > 0) then (0 <= hC a /\ hC a < (↑a.w.b.length : Int)) /\ bif ACD a then ABQ a /\ AGJ a /\ AFN a else AGJ a /\ AFI a else bif
 ACD a then ABQ a /\ AIA a /\ AFN a else AIA a /\ AFI a) := by kernel_rfl
theorem Nh : AG Try.prog AAP (C_span.spec dBkI) := GD C_span (λ _ => BKG) [] [] BPP (λ _ => by kernel_rfl) (λ _ => AE) (λ (a : BkI) h => by
 show BGT a; rw [BOR]; delta hC AEO ACD ABQ AGJ AGO AEM AFN AFI AIA; simp only [CC, eq_self, implies_true, forall_const]
 obtain ⟨⟨hg, hgo, hb, hasc, hbr⟩, h1, h2⟩ : GP a.w.g a.w.b /\ 0 <= a.k /\ a.k <= a.w.b.length := h
 rw [HM (n := a.k - 1) (by omega) (by omega)]
 unfold AP wr
 refine ⟨λ h3 => ⟨by omega, λ h4 => ⟨by omega, ?_, ?_⟩, λ h4 => ⟨?_, ?_⟩⟩, λ h3 => ⟨λ h4 => ⟨by omega, ?_, ?_⟩, λ h4 => ⟨?_, ?_⟩⟩⟩ <;> simp [h3, h4]) (λ _ => GJ rfl rfl) _
structure GB where
 g : List Gau
 b : List Int
def dGB : List AVal -> Heap -> Option (GB × List (Nat × Nat) × List Nat)
 | [x, y], H => match kX x H, Re y H with
  | some (l, f), some (m, e) => some (⟨l, m⟩, [], f ++ e)
  | _, _ => none
 | _, _ => none
def xGB (a : GB) : List AVal := [.d (BE a.g), .d (BD a.b)]
def AX (a : GB) : Int := bif AK a.g == 0 then BI a.b else AK a.g
def BK (a : GB) : Bk := ⟨a.g, a.b, λ _ => false, λ _ => 0⟩
def C_open : Ctr := { α := GB, xs := xGB, L := λ _ => [], val := λ _ => .tup [.bptr 0 0, .int 0], keep := λ a => [(0, .live (bkB (BK a) 1)), (1, .live (bkM (BK a)))], pre := λ a => [a.g.length < 4611686018427387904 /\ a.b.length < 4611686018427387904 /\ AX a = 0] }
def C_openX : Ctr := { α := GB, xs := xGB, L := λ _ => [], val := λ a => .tup [.d (.v (.pointer none)), .int (AX a)], keep := λ _ => [], pre := λ a => [a.g.length < 4611686018427387904 /\ a.b.length < 4611686018427387904 /\ AX a ≠ 0] }
def ARN : Ann := ann 22 [(Cb, C_Check.spec JW), (gS, C_checkB.spec dIs1)]
def BLQ (a : GB) : Prop := AO Try.prog ARN Eg (AF Eg) (xGB a) (AC []) (C_open.val a) (C_open.keep a) [(0, 7080), (1, 7048)] []
theorem BMN (a : GB) : (BLQ a) = (((AD a.g.length λ (i : Nat) => gD a.g i).length = a.g.length /\ (∀ (i : Nat), i < (AD a.g.length λ (i : Nat) => gD a.g i).length -> (gD (AD a.g.length λ (i : Nat) => gD a.g
 i) i).st = (gD a.g i).st /\ (gD (AD a.g.length λ (i : Nat) => gD a.g i) i).lo = (gD a.g i).lo /\ (gD (AD a.g.length λ (i : Nat) => gD a.g i) i).hi = (gD a.g i).hi) /\ (AD a.g.length λ (i : Nat) => gD a.g i).length
 < (4611686018427387904 : Nat) /\ True) /\ bif AK (AD a.g.length λ (i : Nat) => gD a.g i) == (0 : Int) then ((AD a.b.length λ (i : Nat) => gD a.b i).length = a.b.length /\ (∀ (i : Nat), i < (AD a.b.length λ (i :
 Nat) => gD a.b i).length -> gD (AD a.b.length λ (i : Nat) => gD a.b i) i = gD a.b i) /\ (AD a.b.length λ (i : Nat) => gD a.b i).length < (4611686018427387904 : Nat) /\ True) /\ bif BI (AD a.b.length λ (i : Nat)
 => gD a.b i) != (0 : Int) then False else Int.ofNat (0 : Nat) = Int.ofNat (0 : Nat) /\ (BK a).g.length = a.g.length /\ (∀ (i : Nat), i < (BK a).g.length -> (gD (BK a).g i).st = (gD a.g i).st /\ (gD (BK a).g i).lo =
 (gD a.g i).lo /\ (gD (BK a).g i).hi = (gD a.g i).hi) /\ (BK a).b.length = a.b.length /\ (∀ (i : Nat), i < (BK a).b.length -> gD (BK a).b i = gD a.b i) /\ Value.slice none (0 : Nat) (0 : Nat) = Value.slice none (0 :
 Nat) (0 : Nat) /\ (∀ (n : Int), false = false) /\ (∀ (n : Int), (BK a).st n = (0 : Int)) /\ ∀ (n : Int), (AI (BK a) n).length = (0 : Nat) /\ (AI (BK a) n).length = (0 : Nat) else bif AK (AD a.g.length λ (i :
 Nat) => gD a.g i) != (0 : Int) then False else Int.ofNat (0 : Nat) = Int.ofNat (0 : Nat) /\ (BK a).g.length = a.g.length /\ (∀ (i : Nat), i < (BK a).g.length -> (gD (BK a).g i).st = (gD a.g i).st /\ (gD (BK a).g
 i).lo = (gD a.g i).lo /\ (gD (BK a).g i).hi = (gD a.g i).hi) /\ (BK a).b.length = a.b.length /\ (∀ (i : Nat), i < (BK a).b.length -> gD (BK a).b i = gD a.b i) /\ Value.slice none (0 : Nat) (0 : Nat) = Value.slice none
 (0 : Nat) (0 : Nat) /\ (∀ (n : Int), false = false) /\ (∀ (n : Int), (BK a).st n = (0 : Int)) /\ ∀ (n : Int), (AI (BK a) n).length = (0 : Nat) /\ (AI (BK a) n).length = (0 : Nat)) := by kernel_rfl
def BBJ (a : GB) : Prop := AO Try.prog ARN Eg (AF Eg) (xGB a) (AC []) (C_openX.val a) [] [] []
theorem BGD (a : GB) : (BBJ a) = (((AD a.g.length λ (i : Nat) => gD a.g i).length = a.g.length /\ (∀ (i : Nat), i < (AD a.g.length λ (i : Nat) => gD a.g i).length -> (gD (AD a.g.length λ (i : Nat) => gD
 a.g i) i).st = (gD a.g i).st /\ (gD (AD a.g.length λ (i : Nat) => gD a.g i) i).lo = (gD a.g i).lo /\ (gD (AD a.g.length λ (i : Nat) => gD a.g i) i).hi = (gD a.g i).hi) /\ (AD a.g.length λ (i : Nat) => gD a.g
 i).length < 4611686018427387904 /\ True) /\ bif AK (AD a.g.length λ (i : Nat) => gD a.g i) == 0 then ((AD a.b.length λ (i : Nat) => gD a.b i).length = a.b.length /\ (∀ (i : Nat), i < (AD a.b.length λ (i : Nat)
 => gD a.b i).length -> gD (AD a.b.length λ (i : Nat) => gD a.b i) i = gD a.b i) /\ (AD a.b.length λ (i : Nat) => gD a.b i).length < 4611686018427387904 /\ True) /\ bif BI (AD a.b.length λ (i : Nat) => gD a.b i)
 != 0 then Value.pointer none = Value.pointer none /\ AX a = BI (AD a.b.length λ (i : Nat) => gD a.b i) else False else bif AK (AD a.g.length λ (i : Nat) => gD a.g i) != 0 then Value.pointer none =
 Value.pointer none /\ AX a = AK (AD a.g.length λ (i : Nat) => gD a.g i) else False) := by kernel_rfl
theorem L1 : AG Try.prog QW (C_open.spec dGB) := GD C_open (λ _ => ARN) [(0, 7080), (1, 7048)] [] AKI (λ _ => by kernel_rfl) (λ _ => AB VK (AB pP AE)) (λ (a : GB) h => by
 show BLQ a; rw [BMN]; simp only [CC, eq_self, implies_true, forall_const]
 obtain ⟨h1, h2, h3⟩ : a.g.length < 4611686018427387904 /\ a.b.length < 4611686018427387904 /\ AX a = 0 := h
 have key : (BK a).g.length = a.g.length /\ (∀ i : Nat, i < (BK a).g.length -> (gD (BK a).g i).st = (gD a.g i).st /\ (gD (BK a).g i).lo = (gD a.g i).lo /\ (gD (BK a).g i).hi = (gD a.g i).hi) /\ (BK a).b.length = a.b.length /\ (∀ i : Nat, i < (BK a).b.length -> gD (BK a).b i = gD a.b i) /\ (∀ n : Int, (BK a).st n = 0) /\ ∀ n : Int, (AI (BK a) n).length = 0 := ⟨rfl, λ _ _ => ⟨rfl, rfl, rfl⟩, rfl, λ _ _ => rfl, λ _ => rfl, λ _ => rfl⟩
 unfold AX at h3
 refine ⟨h1, λ h4 => ⟨h2, λ h5 => ?_, λ _ => key⟩, λ h4 => ⟨λ h5 => ?_, λ _ => key⟩⟩
 ·rw [h4] at h3; simp at h3 h5; exact h5 h3
 ·rw [h4] at h3; simp at h3 h5; exact h5 h3) (λ _ => GJ rfl rfl) _
theorem W8 : AG Try.prog QW (C_openX.spec dGB) := GD C_openX (λ _ => ARN) [] [] AKI (λ _ => by kernel_rfl) (λ _ => AB VK (AB pP AE)) (λ (a : GB) h => by
 show BBJ a; rw [BGD]; simp only [CC, eq_self, implies_true, forall_const]
 obtain ⟨h1, h2, h3⟩ : a.g.length < 4611686018427387904 /\ a.b.length < 4611686018427387904 /\ AX a ≠ 0 := h
 refine ⟨h1, λ h4 => ⟨h2, λ h5 => ?_, λ h5 => h3 ?_⟩, λ h4 => ⟨λ h5 => ?_, λ h5 => h3 ?_⟩⟩
 ·unfold AX; rw [h4]; rfl
 ·unfold AX; rw [h4]; simpa using h5
 ·unfold AX; rw [h4]; rfl
 ·unfold AX; rw [h4]; simpa using h5) (λ _ => GJ rfl rfl) _
end Go.Bal
