/- Package rating: a line that passes. -/
import Derived.Test.YtoihhodbkimedaaRatC
set_option linter.unusedVariables false
set_option linter.unusedSimpArgs false
namespace Go.Bal
open Go Go.Sym Go.Proofs
def dGsK : List AVal -> Heap -> Option (List Gau × List (Nat × Nat) × List Nat) := dGs1
def C_through : Ctr := { α := List Gau, xs := λ s => [.d (eGaus s)], L := λ _ => [], val := λ s => .fn (.func n_through1) [] [.bptr 0 0], keep := λ s => [(0, .live (.box [.d (eGaus s)]))] }
def V_through (s : List Gau) : Prop := fnVC Try.prog (ann 4 []) F_through (bodyOf F_through) (C_through.xs s) (heapOf []) (C_through.val s) (C_through.keep s) [(0, 1000)] []
theorem vc_through (s : List Gau) : (V_through s) = (s.length = s.length /\ ∀ (i : Nat), i < s.length -> (gD s i).st = (gD s i).st /\ (gD s i).lo = (gD s i).lo /\ (gD s i).hi = (gD s i).hi) := by kernel_rfl
theorem ok_through : SpecOk Try.prog n_through (C_through.spec dGsK) := okC C_through (λ _ => ann 4 []) [(0, 1000)] [] fn_through (λ _ => by kernel_rfl) (λ _ => gok_nil) (λ (s : List Gau) _ => by
 show V_through s; rw [vc_through]; simp) (λ _ => noI rfl rfl) _
structure GsL where
 s : List Gau
 x : Ln
def dGsL : List AVal -> Heap -> Option (GsL × List (Nat × Nat) × List Nat)
 | [y, .d x], H => match dGaus y H with
  | some (l, f) => some (⟨l, dLn x⟩, [], f)
  | none => none
 | _, _ => none
def C_passing : Ctr := { α := GsL, xs := λ a => [.d (eGaus a.s), .d (eLn a.x)], L := λ _ => [], val := λ a => .bool (a.s.all λ g => passM a.x g), keep := λ _ => [], pre := λ a => [a.s.length < 4611686018427387904 /\ (∀ g ∈ a.s, (okL a.x /\ okG g))] }
def A_passing : Ann := ann 9 [(n_eG, C4Gp.spec d4Gp)]
def V_passing (a : GsL) : Prop := fnVC Try.prog A_passing F_passing (bodyOf F_passing) (C_passing.xs a) (heapOf []) (C_passing.val a) [] [] []
theorem vc_passing (a : GsL) : (V_passing a) = (((rng a.s.length λ (i : Nat) => gD a.s i).length = a.s.length /\ (∀ (i : Nat), i < (rng a.s.length λ (i : Nat) => gD a.s i).length -> (gD (rng a.s.length λ (i : Nat) =>
 gD a.s i) i).st = (gD a.s i).st /\ (gD (rng a.s.length λ (i : Nat) => gD a.s i) i).lo = (gD a.s i).lo /\ (gD (rng a.s.length λ (i : Nat) => gD a.s i) i).hi = (gD a.s i).hi) /\ a.x.a0 = a.x.a0 /\ a.x.a1 = a.x.a1 /\ a.x.b0
 = a.x.b0 /\ a.x.b1 = a.x.b1 /\ (rng a.s.length λ (i : Nat) => gD a.s i).length < 4611686018427387904 /\ ∀ (x : Gau), List.Mem x (rng a.s.length λ (i : Nat) => gD a.s i) -> (0 <= a.x.a0 /\ a.x.a0 < a.x.b0 /\ a.x.b0 <= 2000 /\
 0 <= a.x.a1 /\ a.x.a1 <= a.x.b1 /\ a.x.b1 <= 200000) /\ 0 <= x.st /\ x.st <= 2000 /\ 0 <= x.lo /\ x.lo <= x.hi /\ x.hi <= 200000) /\ (a.s.all λ (g : Gau) => passM a.x g) = (rng a.s.length λ (i : Nat) => gD a.s i).all λ (x : Gau)
 => passM a.x x) := by kernel_rfl
theorem ok_passing : SpecOk Try.prog n_passing (C_passing.spec dGsL) := okC C_passing (λ _ => A_passing) [] [] fn_passing (λ _ => by kernel_rfl) (λ _ => gok_cons ok4Gp gok_nil) (λ (a : GsL) h => by
 show V_passing a; rw [vc_passing]; simp only [condP, eq_self, implies_true, and_self, true_and, and_true, true_implies, forall_const, decide_eq_true_eq, decide_eq_false_iff_not, Int.toNat_natCast, dSpan_eSpan, dInt_eInt, dGau_e, dPt_e, dLn_e, dRt_e, Nat.zero_add, Int.zero_sub, Nat.le_eq, Nat.succ_eq_add_one, Nat.add_one_le_iff, Bool.not_eq_true', Bool.not_eq_false', rng_length, dSpan_mk, rng_getD]
 have h : a.s.length < 4611686018427387904 /\ (∀ g ∈ a.s, (okL a.x /\ okG g)) := h
 first | exact h | exact ⟨h, rfl⟩) (λ _ => noI rfl rfl) _
def lnM (a b : Pt) : Ln := ⟨a.st, a.fl, b.st, b.fl⟩
def blk (e : List Pt) (a : Pt) : List Ln := levM a :: (e.map (lnM a)).filter riL
def thruM (s : List Gau) : List Ln := (endsM s).flatMap (blk (endsM s))
def paM (s : List Gau) (x : Ln) : Bool := s.all λ g => passM x g
def lineM (s : List Gau) : Ln × Bool := if s.length = 0 then (levM ⟨0, 0⟩, true) else match (thruM s).find? (paM s) with
 | some x => (x, true)
 | none => (default, false)
def zLn : HCell := .live (.box [.int 0, .int 0, .int 0, .int 0])
def lnH (s : List Gau) : List (Nat × HCell) := [(1000, zLn), (2000, zLn), (3000, .live (.box [.bool false])), (4032, .live (.box [.fn (.func n_passing) [.d (eGaus s)] []]))]
def lnS (s : List Gau) (l i : Nat) : List (Nat × AVal) := [(0, .fn (.yield l) [] []), (3, .d (ePts (endsM s))), (11, .d (ePts (endsM s))), (12, .int (endsM s).length), (13, .int i)]
def preO (s : List Gau) (i : Nat) : List Ln := ((endsM s).take i).flatMap (blk (endsM s))
def preI (s : List Gau) (i j : Nat) : List Ln := preO s i ++ levM (gD (endsM s) i) :: (((endsM s).take j).map (lnM (gD (endsM s) i))).filter riL
def lnO (s : List Gau) (l : Nat) : Shape := { α := Nat, dflt := 0, T := λ i => ⟨lnS s l i, lnH s⟩, inv := λ i => i <= (endsM s).length /\ ∀ x ∈ preO s i, paM s x = false, meas := λ i => (endsM s).length - i }
def lnI (s : List Gau) (q l : Nat) : Shape := { α := IJ, dflt := default, T := λ x => ⟨[(5, .bptr 205 0), (22, .d (ePts (endsM s))), (23, .int (endsM s).length), (24, .int x.j)] ++ lnS s l x.i, (205, .live (.box [.int (gD (endsM s) x.i).st, .int (gD (endsM s) x.i).fl])) :: lnH s⟩, inv := λ x => x.i < (endsM s).length /\ x.j <= (endsM s).length /\ (endsM s).length - x.i = q /\ ∀ y ∈ preI s x.i x.j, paM s y = false, meas := λ x => (endsM s).length - x.j, first := [(205, 104032)] }
noncomputable def itLine (s : List Gau) : IterAnn := { fn := F_through1, code := bodyOf F_through1, live := [0, 2, 4, 5, 6], ann := { base := λ id => 100000 + 1000 * (id + 1), Γ := Sym.look [(n_ends, C_ends.spec dGs1), (n_level, s_level), (n_riL, s_riL)], E := [1000, 2000, 3000, 4032], n := 41, inner := λ gs id => if id = 2 then some [lnO s (gs.getD 0 0)] else if id = 6 then some [lnI s (gs.getD 0 0) (gs.getD 1 0)] else none } }
noncomputable def A_line (s : List Gau) : Ann := { ann 24 [(n_through, C_through.spec dGsK), (n_passing, C_passing.spec dGsL), (n_level, s_level)] with iter := λ g => if g = n_through1 then some (itLine s) else none }
def C_line : Ctr := { α := List Gau, xs := λ s => [.d (eGaus s)], L := λ _ => [], val := λ s => .tup [.d (eLn (lineM s).1), .bool (lineM s).2], keep := λ _ => [], pre := λ s => [s.length < 1073741824 /\ ∀ g ∈ s, okG g] }
def V_line (s : List Gau) : Prop := fnVC Try.prog (A_line s) F_line (bodyOf F_line) (C_line.xs s) (heapOf []) (C_line.val s) [] [] []
abbrev z_line_0 (s : List Gau) : List Gau := rng s.length λ (i : Nat) => gD s i
abbrev z_line_1 (s : List Gau) : Nat := (z_line_0 s).length
abbrev z_line_2 (s : List Gau) : Prop := z_line_1 s = s.length
abbrev z_line_3 (s : List Gau) (i : Nat) : Gau := gD (z_line_0 s) i
abbrev z_line_4 (s : List Gau) (i : Nat) : Int := (z_line_3 s i).st
abbrev z_line_5 (s : List Gau) (i : Nat) : Int := (z_line_3 s i).lo
abbrev z_line_6 (s : List Gau) (i : Nat) : Int := (z_line_3 s i).hi
abbrev z_line_7 (s : List Gau) : Prop := ∀ (i : Nat), i < z_line_1 s -> z_line_4 s i = (gD s i).st /\ z_line_5 s i = (gD s i).lo /\ z_line_6 s i = (gD s i).hi
abbrev z_line_8 (s : List Gau) : List Gau := rng (z_line_1 s) λ (i : Nat) => z_line_3 s i
abbrev z_line_9 (s : List Gau) : Nat := (z_line_8 s).length
abbrev z_line_10 (s : List Gau) (i : Nat) : Gau := gD (z_line_8 s) i
abbrev z_line_11 (s : List Gau) : List Pt := endsM (z_line_8 s)
abbrev z_line_12 (s : List Gau) : Nat := (z_line_11 s).length
abbrev z_line_13 (s : List Gau) : Prop := (endsM s).length = z_line_12 s
abbrev z_line_14 (s : List Gau) (i : Nat) : Pt := gD (z_line_11 s) i
abbrev z_line_15 (s : List Gau) : Prop := ∀ (i : Nat), i < (endsM s).length -> (gD (endsM s) i).st = (z_line_14 s i).st /\ (gD (endsM s) i).fl = (z_line_14 s i).fl
abbrev z_line_16 : Prop := Int.ofNat (0 : Nat) = Int.ofNat (0 : Nat)
abbrev z_line_17 (s : List Gau) : Prop := z_line_16 /\ z_line_16 /\ z_line_16 /\ z_line_16 /\ z_line_16 /\ z_line_16 /\ z_line_16 /\ z_line_16 /\ false = false /\ s.length = s.length /\ ∀ (i : Nat), i < s.length -> (gD s i).st =
 (gD s i).st /\ (gD s i).lo = (gD s i).lo /\ (gD s i).hi = (gD s i).hi
abbrev z_line_18 (a : Nat) (s : List Gau) : Prop := a <= (endsM s).length /\ ∀ (x : Ln), List.Mem x (preO s a) -> paM s x = false
abbrev z_line_19 (a : Nat) (s : List Gau) : Prop := (↑a : Int) < (↑(endsM s).length : Int)
abbrev z_line_20 (s : List Gau) : Prop := z_line_1 s < (4611686018427387904 : Nat)
abbrev z_line_21 (g : Gau) (s : List Gau) : Prop := List.Mem g (z_line_0 s)
abbrev z_line_22 (g : Gau) : Prop := (0 : Int) <= g.st /\ g.st <= (2000 : Int) /\ (0 : Int) <= g.lo /\ g.lo <= g.hi /\ g.hi <= (200000 : Int)
abbrev z_line_23 (s : List Gau) : Bool := (↑s.length : Int) == (0 : Int)
abbrev z_line_24 : Ln := levM (Pt.mk (0 : Int) (0 : Int))
abbrev z_line_25 (s : List Gau) : Prop := ((0 : Int) <= (0 : Int) /\ (0 : Int) <= (2000 : Int)) /\ (lineM s).fst.a0 = z_line_24.a0 /\ (lineM s).fst.a1 = z_line_24.a1 /\ (lineM s).fst.b0 = z_line_24.b0 /\ (lineM s).fst.b1 =
 z_line_24.b1 /\ (lineM s).snd = true
abbrev z_line_26 (s : List Gau) : Prop := (endsM s).length = (endsM s).length
abbrev z_line_27 (s : List Gau) : Prop := ∀ (i : Nat), i < (endsM s).length -> (gD (endsM s) i).st = (gD (endsM s) i).st /\ (gD (endsM s) i).fl = (gD (endsM s) i).fl
abbrev z_line_28 (s : List Gau) : Prop := (↑(endsM s).length : Int) = (↑(endsM s).length : Int)
abbrev z_line_29 (s : List Gau) (a : Nat) : Nat := (endsM s).length - a
abbrev z_line_30 (a : IJ) (s : List Gau) (a1 : Nat) : Prop := a.i < (endsM s).length /\ a.j <= (endsM s).length /\ (endsM s).length - a.i = z_line_29 s a1 /\ ∀ (y : Ln), List.Mem y (preI s a.i a.j) -> paM s y = false
abbrev z_line_31 (a : IJ) (s : List Gau) : Prop := (↑a.j : Int) < (↑(endsM s).length : Int)
abbrev z_line_32 (s : List Gau) (a : IJ) : Ln := Ln.mk (gD (endsM s) a.i).st (gD (endsM s) a.i).fl (gD (endsM s) a.j).st (gD (endsM s) a.j).fl
abbrev z_line_33 (s : List Gau) (a : IJ) : Bool := riL (z_line_32 s a)
abbrev z_line_34 (s : List Gau) (a : IJ) : Nat := (endsM s).length - a.j
abbrev z_line_35 (s : List Gau) (a : IJ) (l : Nat) (a1 : Nat) : Prop := ∃ (a_1 : IJ), (z_line_26 s /\ z_line_27 s /\ z_line_28 s /\ (↑a_1.j : Int) = IntKind.i64.wrap ((↑a.j : Int) + (1 : Int)) /\ Fn.yield l = Fn.yield l /\
 z_line_26 s /\ z_line_27 s /\ z_line_26 s /\ z_line_27 s /\ z_line_28 s /\ (↑a_1.i : Int) = (↑a.i : Int) /\ (gD (endsM s) a_1.i).st = (gD (endsM s) a.i).st /\ (gD (endsM s) a_1.i).fl = (gD (endsM s) a.i).fl /\ z_line_17 s) /\
 z_line_30 a_1 s a1 /\ z_line_34 s a_1 < z_line_34 s a
theorem vc_line (s : List Gau) : (V_line s) = ((z_line_2 s /\ z_line_7 s) /\ ∀ (l : Nat), (z_line_9 s = z_line_1 s /\ (∀ (i : Nat), i < z_line_9 s -> (z_line_10 s i).st = z_line_4 s i /\ (z_line_10 s i).lo = z_line_5 s i /\
 (z_line_10 s i).hi = z_line_6 s i) /\ z_line_9 s < (1073741824 : Nat) /\ True) /\ (∃ (a : Nat), (Fn.yield l = Fn.yield l /\ z_line_13 s /\ z_line_15 s /\ z_line_13 s /\ z_line_15 s /\ (↑(endsM s).length : Int) = (↑(z_line_12 s)
 : Int) /\ (↑a : Int) = (0 : Int) /\ z_line_17 s) /\ z_line_18 a s) /\ ∀ (a : Nat), z_line_18 a s -> bif decide (z_line_19 a s) then ((0 : Int) <= (↑a : Int) /\ z_line_19 a s) /\ ((0 : Int) <= (gD (endsM s) a).st /\ (gD (endsM s)
 a).st <= (2000 : Int)) /\ l = l /\ (z_line_2 s /\ z_line_7 s /\ (levM (gD (endsM s) a)).a0 = (levM (gD (endsM s) a)).a0 /\ (levM (gD (endsM s) a)).a1 = (levM (gD (endsM s) a)).a1 /\ (levM (gD (endsM s) a)).b0 = (levM (gD (endsM
 s) a)).b0 /\ (levM (gD (endsM s) a)).b1 = (levM (gD (endsM s) a)).b1 /\ z_line_20 s /\ ∀ (g : Gau), z_line_21 g s -> ((0 : Int) <= (levM (gD (endsM s) a)).a0 /\ (levM (gD (endsM s) a)).a0 < (levM (gD (endsM s) a)).b0 /\ (levM
 (gD (endsM s) a)).b0 <= (2000 : Int) /\ (0 : Int) <= (levM (gD (endsM s) a)).a1 /\ (levM (gD (endsM s) a)).a1 <= (levM (gD (endsM s) a)).b1 /\ (levM (gD (endsM s) a)).b1 <= (200000 : Int)) /\ z_line_22 g) /\ bif (z_line_0 s).all
 λ (g : Gau) => passM (levM (gD (endsM s) a)) g then bif z_line_23 s then z_line_25 s else (lineM s).fst.a0 = (levM (gD (endsM s) a)).a0 /\ (lineM s).fst.a1 = (levM (gD (endsM s) a)).a1 /\ (lineM s).fst.b0 = (levM (gD
 (endsM s) a)).b0 /\ (lineM s).fst.b1 = (levM (gD (endsM s) a)).b1 /\ (lineM s).snd = true else (∃ (a_2 : IJ), (z_line_26 s /\ z_line_27 s /\ z_line_28 s /\ (↑a_2.j : Int) = (0 : Int) /\ Fn.yield l = Fn.yield l /\ z_line_26 s /\
 z_line_27 s /\ z_line_26 s /\ z_line_27 s /\ z_line_28 s /\ (↑a_2.i : Int) = (↑a : Int) /\ (gD (endsM s) a_2.i).st = (gD (endsM s) a).st /\ (gD (endsM s) a_2.i).fl = (gD (endsM s) a).fl /\ z_line_17 s) /\ z_line_30 a_2 s a) /\ ∀
 (a_2 : IJ), z_line_30 a_2 s a -> bif decide (z_line_31 a_2 s) then ((0 : Int) <= (↑a_2.j : Int) /\ z_line_31 a_2 s) /\ bif if true = true then z_line_33 s a_2 else !z_line_33 s a_2 then l = l /\ (z_line_2 s /\ z_line_7 s /\ (gD
 (endsM s) a_2.i).st = (gD (endsM s) a_2.i).st /\ (gD (endsM s) a_2.i).fl = (gD (endsM s) a_2.i).fl /\ (gD (endsM s) a_2.j).st = (gD (endsM s) a_2.j).st /\ (gD (endsM s) a_2.j).fl = (gD (endsM s) a_2.j).fl /\ z_line_20 s /\ ∀
 (g : Gau), z_line_21 g s -> ((0 : Int) <= (gD (endsM s) a_2.i).st /\ (gD (endsM s) a_2.i).st < (gD (endsM s) a_2.j).st /\ (gD (endsM s) a_2.j).st <= (2000 : Int) /\ (0 : Int) <= (gD (endsM s) a_2.i).fl /\ (gD (endsM s) a_2.i).fl
 <= (gD (endsM s) a_2.j).fl /\ (gD (endsM s) a_2.j).fl <= (200000 : Int)) /\ z_line_22 g) /\ bif (z_line_0 s).all λ (g : Gau) => passM (z_line_32 s a_2) g then bif z_line_23 s then z_line_25 s else (lineM s).fst.a0 = (gD
 (endsM s) a_2.i).st /\ (lineM s).fst.a1 = (gD (endsM s) a_2.i).fl /\ (lineM s).fst.b0 = (gD (endsM s) a_2.j).st /\ (lineM s).fst.b1 = (gD (endsM s) a_2.j).fl /\ (lineM s).snd = true else z_line_35 s a_2 l a else z_line_35 s
 a_2 l a else ∃ (a_4 : Nat), (Fn.yield l = Fn.yield l /\ z_line_26 s /\ z_line_27 s /\ z_line_26 s /\ z_line_27 s /\ z_line_28 s /\ (↑a_4 : Int) = IntKind.i64.wrap ((↑a_2.i : Int) + (1 : Int)) /\ z_line_17 s) /\ z_line_18 a_4 s /\
 z_line_29 s a_4 < z_line_29 s a else bif z_line_23 s then z_line_25 s else (lineM s).fst.a0 = (0 : Int) /\ (lineM s).fst.a1 = (0 : Int) /\ (lineM s).fst.b0 = (0 : Int) /\ (lineM s).fst.b1 = (0 : Int) /\ (lineM s).snd =
 false) := by kernel_rfl
def okP (p : Pt) : Prop := 0 <= p.st /\ p.st <= 2000 /\ 0 <= p.fl /\ p.fl <= 200000
theorem addP_mem {l : List Pt} {p q : Pt} : q ∈ addP l p ↔ q ∈ l ∨ q = p := by
 unfold addP; split
 ·rename_i h
  exact ⟨.inl, λ h2 => h2.elim id λ h2 => h2 ▸ h⟩
 ·simp
theorem ends_mem' : ∀ (s : List Gau) (l : List Pt) (p : Pt), p ∈ s.foldl addG l ↔ p ∈ l ∨ ∃ g ∈ s, p = ⟨g.st, g.lo⟩ ∨ p = ⟨g.st, g.hi⟩
 | [], l, p => by simp
 | g :: s, l, p => by
  rw [List.foldl_cons, ends_mem' s]
  simp only [addG, addP_mem, List.mem_cons, exists_eq_or_imp]
  constructor
  ·rintro (((h | h) | h) | h)
   ·exact .inl h
   ·exact .inr (.inl (.inl h))
   ·exact .inr (.inl (.inr h))
   ·exact .inr (.inr h)
  ·rintro (h | (h | h) | h)
   ·exact .inl (.inl (.inl h))
   ·exact .inl (.inl (.inr h))
   ·exact .inl (.inr h)
   ·exact .inr h
theorem ends_mem {s : List Gau} {p : Pt} : p ∈ endsM s ↔ ∃ g ∈ s, p = ⟨g.st, g.lo⟩ ∨ p = ⟨g.st, g.hi⟩ := by
 unfold endsM; rw [ends_mem']; simp
theorem ends_ok {s : List Gau} (h : ∀ g ∈ s, okG g) {p : Pt} (hp : p ∈ endsM s) : okP p := by
 obtain ⟨g, hg, rfl | rfl⟩ := ends_mem.1 hp
 ·obtain ⟨h1, h2, h3, h4, h5⟩ := h g hg; exact ⟨h1, h2, h3, by show g.lo <= _; omega⟩
 ·obtain ⟨h1, h2, h3, h4, h5⟩ := h g hg; exact ⟨h1, h2, by show 0 <= g.hi; omega, h5⟩
theorem lev_ok {p : Pt} (h : okP p) : okL (levM p) := by
 obtain ⟨h1, h2, h3, h4⟩ := h
 unfold levM; split
 ·exact ⟨by show 0 <= p.st - 1; omega, by show p.st - 1 < p.st; omega, h2, h3, Int.le_refl _, h4⟩
 ·exact ⟨h1, by show p.st < p.st + 1; omega, by show p.st + 1 <= 2000; omega, h3, Int.le_refl _, h4⟩
theorem riL_ok {x : Ln} : riL x = true ↔ okL x := by
 unfold riL riP inM okL
 simp only [Bool.and_eq_true, decide_eq_true_eq]
 constructor
 ·intro h; exact ⟨by omega, by omega, by omega, by omega, by omega, by omega⟩
 ·intro h; exact ⟨⟨⟨⟨⟨by omega, by omega⟩, by omega, by omega⟩, ⟨by omega, by omega⟩, by omega, by omega⟩, by omega⟩, by omega⟩
theorem preO_succ {s : List Gau} {i : Nat} (h : i < (endsM s).length) : preO s (i + 1) = preO s i ++ blk (endsM s) (gD (endsM s) i) := by
 unfold preO; rw [take_snoc h, List.flatMap_append]; simp
theorem preO_all {s : List Gau} : preO s (endsM s).length = thruM s := by unfold preO thruM; rw [List.take_length]
theorem preI_all {s : List Gau} {i : Nat} (h : i < (endsM s).length) : preI s i (endsM s).length = preO s (i + 1) := by
 rw [preO_succ h]; unfold preI blk; rw [List.take_length]
theorem preI_succ {s : List Gau} {i j : Nat} (h : j < (endsM s).length) : preI s i (j + 1) = preI s i j ++ (if riL (lnM (gD (endsM s) i) (gD (endsM s) j)) then [lnM (gD (endsM s) i) (gD (endsM s) j)] else []) := by
 unfold preI
 rw [take_snoc h, List.map_append, List.filter_append, <- List.cons_append, <- List.append_assoc]
 simp only [List.map_cons, List.map_nil]
 congr 1
 split
 ·rename_i h1; rw [List.filter_cons_of_pos h1]; rfl
 ·rename_i h1; rw [List.filter_cons_of_neg h1]; rfl
theorem thru_O {s : List Gau} : ∀ {i : Nat}, ∃ r, thruM s = preO s i ++ r := λ {i} => by
 refine ⟨((endsM s).drop i).flatMap (blk (endsM s)), ?_⟩
 unfold thruM preO
 rw [<- List.flatMap_append, List.take_append_drop]
theorem thru_I {s : List Gau} {i j : Nat} (h : i < (endsM s).length) : ∃ r, thruM s = preI s i j ++ r := by
 obtain ⟨r, hr⟩ := thru_O (s := s) (i := i + 1)
 rw [hr, <- preI_all h]
 refine ⟨(((endsM s).drop j).map (lnM (gD (endsM s) i))).filter riL ++ r, ?_⟩
 unfold preI
 rw [List.take_length]
 conv => lhs; rw [<- List.take_append_drop j (endsM s)]
 simp only [List.map_append, List.filter_append, List.append_assoc, List.cons_append]
 rw [List.take_append_drop]
theorem find_at {α : Type} {f : α -> Bool} {p : List α} {x : α} {r : List α} (h : ∀ y ∈ p, f y = false) (hx : f x = true) : (p ++ x :: r).find? f = some x := by
 rw [List.find?_append, List.find?_eq_none.2 (λ y hy => by simp [h y hy])]
 simp [hx]
theorem line_found {s : List Gau} {p : List Ln} {x : Ln} {r : List Ln} (h : thruM s = p ++ x :: r) (h1 : ∀ y ∈ p, paM s y = false) (hx : paM s x = true) (h0 : s.length ≠ 0) : lineM s = (x, true) := by
 unfold lineM; rw [if_neg h0, h, find_at h1 hx]
theorem line_nil {s : List Gau} (h : s.length = 0) : lineM s = (levM ⟨0, 0⟩, true) := if_pos h
theorem line_none {s : List Gau} (h : ∀ y ∈ thruM s, paM s y = false) (h0 : s.length ≠ 0) : lineM s = (default, false) := by
 unfold lineM; rw [if_neg h0, List.find?_eq_none.2 (λ y hy => by simp [h y hy])]
theorem ok_line : SpecOk Try.prog n_line (C_line.spec dGs1) := okC C_line A_line [] [] fn_line (λ _ => by kernel_rfl) (λ _ => gok_cons ok_through (gok_cons ok_passing (gok_cons ok_level gok_nil))) (λ (s : List Gau) h => by
 show V_line s; rw [vc_line]; delta z_line_0 z_line_1 z_line_2 z_line_3 z_line_4 z_line_5 z_line_6 z_line_7 z_line_8 z_line_9 z_line_10 z_line_11 z_line_12 z_line_13 z_line_14 z_line_15 z_line_16 z_line_17 z_line_18 z_line_19 z_line_20 z_line_21 z_line_22 z_line_23 z_line_24 z_line_25 z_line_26 z_line_27 z_line_28 z_line_29 z_line_30 z_line_31 z_line_32 z_line_33 z_line_34 z_line_35; simp only [condP, eq_self, implies_true, and_self, true_and, and_true, true_implies, forall_const, decide_eq_true_eq, decide_eq_false_iff_not, Int.toNat_natCast, dSpan_eSpan, dInt_eInt, dGau_e, dPt_e, dLn_e, dRt_e, Nat.zero_add, Int.zero_sub, Nat.le_eq, Nat.succ_eq_add_one, Nat.add_one_le_iff, Bool.not_eq_true', Bool.not_eq_false', rng_length, dSpan_mk, rng_getD, if_true]
 obtain ⟨hn, hg⟩ : s.length < 1073741824 /\ ∀ g ∈ s, okG g := h
 have nil : ((s.length : Int) == 0) = true -> (0 <= (0 : Int) /\ (0 : Int) <= 2000) /\ (lineM s).fst.a0 = (levM ⟨0, 0⟩).a0 /\ (lineM s).fst.a1 = (levM ⟨0, 0⟩).a1 /\ (lineM s).fst.b0 = (levM ⟨0, 0⟩).b0 /\ (lineM s).fst.b1 = (levM ⟨0, 0⟩).b1 /\ (lineM s).snd = true := λ h => by
  rw [line_nil (by simpa using h)]; exact ⟨by omega, rfl, rfl, rfl, rfl, rfl⟩
 have ok : ∀ x, okL x -> s.length < 4611686018427387904 /\ ∀ g : Gau, List.Mem g s -> okL x /\ okG g := λ x hx => ⟨by omega, λ g hgs => ⟨hx, hg g hgs⟩⟩
 have he : (endsM s).length <= 2 * s.length := by
  have := endsK_len (s := s) s.length (Nat.le_refl _)
  unfold endsK at this; rw [List.take_length] at this; exact this
 have e_ok : ∀ i, i < (endsM s).length -> okP (gD (endsM s) i) := λ i hi => ends_ok hg (gD_mem hi)
 refine ⟨by omega, ⟨0, rfl, Nat.zero_le _, λ x hx => by cases hx⟩, λ i ⟨hi, hp⟩ => ⟨λ hlt => ?_, λ hge => ?_⟩⟩
 ·have hlt : i < (endsM s).length := by omega
  obtain ⟨r0, hr0⟩ := thru_I (s := s) (j := 0) hlt
  have hpe : preI s i 0 = preO s i ++ [levM (gD (endsM s) i)] := by unfold preI; simp
  have hr0' : thruM s = preO s i ++ levM (gD (endsM s) i) :: r0 := by rw [hr0, hpe]; simp
  refine ⟨⟨by omega, by omega⟩, ⟨(e_ok i hlt).1, (e_ok i hlt).2.1⟩, ok _ (lev_ok (e_ok i hlt)), λ hpa => ⟨nil, λ h0 => ?_⟩, λ hpa => ⟨⟨⟨i, 0⟩, ⟨rfl, rfl, rfl, rfl⟩, hlt, Nat.zero_le _, rfl, λ y hy => ?_⟩, λ x ⟨hx1, hx2, hx3, hx4⟩ => ⟨λ hj => ?_, λ hj => ?_⟩⟩⟩
  ·rw [line_found hr0' hp hpa (by simpa using h0)]; exact ⟨rfl, rfl, rfl, rfl, rfl⟩
  ·have hy : y ∈ preO s i ++ [levM (gD (endsM s) i)] := hpe ▸ hy
   rcases List.mem_append.1 hy with hy | hy
   ·exact hp y hy
   ·rw [List.mem_singleton.1 hy]; exact hpa
  ·have hj : x.j < (endsM s).length := by omega
   have step : (∀ y ∈ preI s x.i (x.j + 1), paM s y = false) -> ∃ z : IJ, ((z.j : Int) = IntKind.i64.wrap ((x.j : Int) + 1) /\ (z.i : Int) = x.i /\ (gD (endsM s) z.i).st = (gD (endsM s) x.i).st /\ (gD (endsM s) z.i).fl = (gD (endsM s) x.i).fl) /\ (z.i < (endsM s).length /\ z.j <= (endsM s).length /\ (endsM s).length - z.i = (endsM s).length - i /\ ∀ y : Ln, List.Mem y (preI s z.i z.j) -> paM s y = false) /\ (endsM s).length - z.j < (endsM s).length - x.j := λ h =>
    ⟨⟨x.i, x.j + 1⟩, ⟨(wsucc (by omega)).symm, rfl, rfl, rfl⟩, ⟨hx1, hj, hx3, h⟩, by show (endsM s).length - (x.j + 1) < _; omega⟩
   refine ⟨⟨by omega, by omega⟩, λ hri => ⟨ok ⟨_, _, _, _⟩ (riL_ok.1 hri), λ hpa => ⟨nil, λ h0 => ?_⟩, λ hpa => step λ y hy => ?_⟩, λ hri => step λ y hy => ?_⟩
   ·have hri' : riL (lnM (gD (endsM s) x.i) (gD (endsM s) x.j)) = true := hri
    obtain ⟨r, hr⟩ := thru_I (s := s) (j := x.j + 1) hx1
    rw [preI_succ hj, if_pos hri', List.append_assoc] at hr
    rw [line_found hr hx4 hpa (by simpa using h0)]; exact ⟨rfl, rfl, rfl, rfl, rfl⟩
   ·have hri' : riL (lnM (gD (endsM s) x.i) (gD (endsM s) x.j)) = true := hri
    rw [preI_succ hj, if_pos hri'] at hy
    rcases List.mem_append.1 hy with hy | hy
    ·exact hx4 y hy
    ·rw [List.mem_singleton.1 hy]; exact hpa
   ·have hri' : ¬ riL (lnM (gD (endsM s) x.i) (gD (endsM s) x.j)) = true := by
     intro h; have h : riL ⟨_, _, _, _⟩ = true := h; rw [hri] at h; cases h
    rw [preI_succ hj, if_neg hri', List.append_nil] at hy
    exact hx4 y hy
  ·have hje : x.j = (endsM s).length := by omega
   refine ⟨x.i + 1, (wsucc (by omega)).symm, ⟨by omega, λ y hy => ?_⟩, by omega⟩
   rw [<- preI_all hx1] at hy
   exact hx4 y (hje ▸ hy)
 ·have hie : i = (endsM s).length := by omega
  rw [hie, preO_all] at hp
  refine ⟨nil, λ h0 => ?_⟩
  rw [line_none hp (by simpa using h0)]; exact ⟨rfl, rfl, rfl, rfl, rfl⟩) (λ s => iterI n_through1 (itLine s) rfl rfl (gok_cons ok_ends (gok_cons ok_level (gok_cons ok_riL gok_nil))) fn_through1 (by kernel_rfl) (by kernel_rfl)) _
end Go.Bal
