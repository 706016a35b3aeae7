/- Package rating: the least and the greatest flow at a stage. -/
import Derived.Test.YtoihhodbkimedaaRatG
set_option linter.unusedVariables false
set_option linter.unusedSimpArgs false
namespace Go.Bal
open Go Go.Sym Go.Proofs
def cmpR (p q : Rt) : Int := cmpM (wr (p.n * q.d)) (wr (q.n * p.d))
def s_less1 := pD dR2 λ x => .bool (decide (cmpR x.lo x.hi < 0))
def s_more1 := pD dR2 λ x => .bool (decide (cmpR x.lo x.hi > 0))
def A_lm : Ann := ann 9 [(n_compare, s_compare)]
def V_less1 (a : Bnd) : Prop := fnVC Try.prog A_lm F_less1 (bodyOf F_less1) (xR2 a) (heapOf []) (.bool (decide (cmpR a.lo a.hi < 0))) [] [] []
theorem vc_less1 (a : Bnd) : (V_less1 a) = (decide (cmpR a.lo a.hi < 0) = decide (cmpM (wr (a.lo.n * a.hi.d)) (wr (a.hi.n * a.lo.d)) < 0)) := by kernel_rfl
def V_more1 (a : Bnd) : Prop := fnVC Try.prog A_lm F_more1 (bodyOf F_more1) (xR2 a) (heapOf []) (.bool (decide (cmpR a.lo a.hi > 0))) [] [] []
theorem vc_more1 (a : Bnd) : (V_more1 a) = (decide (cmpR a.lo a.hi > 0) = decide (cmpM (wr (a.lo.n * a.hi.d)) (wr (a.hi.n * a.lo.d)) > 0)) := by kernel_rfl
theorem ok_less1 : SpecOk Try.prog n_less1 s_less1 := pD_ok xR2 hR2 λ g _ => fnt (A := A_lm) (ren := []) (fz := []) fn_less1 (by kernel_rfl) (gok_cons ok_compare gok_nil) (by
 show V_less1 g; rw [vc_less1]; rfl)
theorem ok_more1 : SpecOk Try.prog n_more1 s_more1 := pD_ok xR2 hR2 λ g _ => fnt (A := A_lm) (ren := []) (fz := []) fn_more1 (by kernel_rfl) (gok_cons ok_compare gok_nil) (by
 show V_more1 g; rw [vc_more1]; rfl)
def vLess : AVal := .agg [.fn (.func n_less1) [] []]
def vMore : AVal := .agg [.fn (.func n_more1) [] []]
def d0 : List AVal -> Heap -> Option (One × List (Nat × Nat) × List Nat)
 | [], _ => some (default, [], [])
 | _, _ => none
def C_less : Ctr := { α := One, xs := λ _ => [], L := λ _ => [], val := λ _ => vLess, keep := λ _ => [] }
def C_more : Ctr := { α := One, xs := λ _ => [], L := λ _ => [], val := λ _ => vMore, keep := λ _ => [] }
def V_less (_x : One) : Prop := fnVC Try.prog (ann 2 []) F_less (bodyOf F_less) [] (heapOf []) vLess [] [] []
theorem vc_less (_x : One) : (V_less _x) = (True) := by kernel_rfl
def V_more (_x : One) : Prop := fnVC Try.prog (ann 2 []) F_more (bodyOf F_more) [] (heapOf []) vMore [] [] []
theorem vc_more (_x : One) : (V_more _x) = (True) := by kernel_rfl
def dAL : List AVal -> Option LnI
 | [.d (.iface 74 (.agg [.v (.int .i64 a), .v (.int .i64 b), .v (.int .i64 c), .v (.int .i64 d)])), .d (.v (.int .i64 s))] => some ⟨⟨a, b, c, d⟩, s⟩
 | _ => none
def xAL (a : LnI) : List AVal := [.d (.iface 74 (eLn a.x)), .int a.s]
def s_askL := pD dAL (λ a => .d (eRt (flowM a.x a.s))) (λ a => [okL a.x, 0 <= a.s /\ a.s <= 2000])
def V_askL (a : LnI) : Prop := fnVC Try.prog (ann 8 [(n_flowL, s_flowL)]) F_asked (bodyOf F_asked) (xAL a) (heapOf []) (.d (eRt (flowM a.x a.s))) [] [] []
theorem vc_askL (a : LnI) : (V_askL a) = (((0 <= a.x.a0 /\ a.x.a0 < a.x.b0 /\ a.x.b0 <= 2000 /\ 0 <= a.x.a1 /\ a.x.a1 <= a.x.b1 /\ a.x.b1 <= 200000) /\ 0 <= a.s /\ a.s <= 2000) /\ (flowM a.x a.s).n = (flowM a.x a.s).n /\ (flowM a.x
 a.s).d = (flowM a.x a.s).d) := by kernel_rfl
theorem ok_less : SpecOk Try.prog n_less (C_less.spec d0) := okC C_less (λ _ => ann 2 []) [] [] fn_less (λ _ => by kernel_rfl) (λ _ => gok_nil) (λ (x : One) _ => by
 show V_less x; rw [vc_less]; trivial) (λ _ => noI rfl rfl) _
theorem ok_more : SpecOk Try.prog n_more (C_more.spec d0) := okC C_more (λ _ => ann 2 []) [] [] fn_more (λ _ => by kernel_rfl) (λ _ => gok_nil) (λ (x : One) _ => by
 show V_more x; rw [vc_more]; trivial) (λ _ => noI rfl rfl) _
theorem hAL (xs : List AVal) (a : LnI) (h : dAL xs = some a) : xs = xAL a := by
 unfold dAL at h; split at h <;> cases h; rfl
theorem ok_askL : SpecOk Try.prog n_asked s_askL := pD_ok xAL hAL λ a h => fnt (A := ann 8 [(n_flowL, s_flowL)]) (ren := []) (fz := []) fn_asked (by kernel_rfl) (gok_cons ok_flowL gok_nil) (by
 show V_askL a; rw [vc_askL]; exact ⟨⟨h.1, h.2⟩, rfl, rfl⟩)
def pickM (lt : Rt -> Rt -> Bool) (t : Int) (b x : Ln) : Ln := bif lt (flowM x t) (flowM b t) then x else b
def bestK (lt : Rt -> Rt -> Bool) (t : Int) (l : List Ln) (i : Nat) : Ln := (l.take i).foldl (pickM lt t) (gD l 0)
def bestM (lt : Rt -> Rt -> Bool) (t : Int) (l : List Ln) : Ln := l.foldl (pickM lt t) (gD l 0)
def ltR (p q : Rt) : Bool := decide (cmpR p q < 0)
def gtR (p q : Rt) : Bool := decide (cmpR p q > 0)
structure BkT where
 w : Bk
 st : Int
def kB (a : BkT) : Int := leC a.w.b a.st
def lB (a : BkT) : List Ln := lnsM (insM a.w (kB a)) a.st
def dBkT (n : FuncId) : List AVal -> Heap -> Option (BkT × List (Nat × Nat) × List Nat)
 | [.bptr id _, .d t, .agg [.fn (.func g) [] []]], H => if g = n then match decBk H id with
  | some (w, q) => some (⟨w, dInt t⟩, [(100, id), (101, q)], [])
  | none => none else none
 | _, _ => none
def bvL (x : Ln) (b : Bool) : AVal := .tup [.d (eLn x), .bool b]
def be6 (lt : Rt -> Rt -> Bool) (n : FuncId) (a : BkT) : Shape := { α := Nat, dflt := 0, T := λ i => ⟨[(1, .int a.st), (5, .bptr 1000 0), (6, .bptr 1016 0), (9, .bptr 5048 0), (29, .d (eLns (lB a))), (30, .int (lB a).length), (31, .int i)], bkK (upB a.w (kB a)) ++ [(1000, .live (.box [.fn (.func n) [] []])), (1016, zLn), (5048, .live (.box [.int (bestK lt a.st (lB a) i).a0, .int (bestK lt a.st (lB a) i).a1, .int (bestK lt a.st (lB a) i).b0, .int (bestK lt a.st (lB a) i).b1]))]⟩, inv := λ i => i <= (lB a).length, meas := λ i => (lB a).length - i }
def C_best (lt : Rt -> Rt -> Bool) (n : FuncId) : Ctr := { ro := [100], α := BkT, xs := λ a => [.bptr 100 0, .int a.st, .agg [.fn (.func n) [] []]], L := λ a => bkL a.w, val := λ a => bvL (bif decide ((lB a).length = 0) then default else bestM lt a.st (lB a)) (decide ((lB a).length ≠ 0)), keep := λ a => bkK (upB a.w (kB a)), pre := λ a => [bkOk a.w.g a.w.b /\ 0 <= a.st /\ a.st <= 2000] }
def A_best (lt : Rt -> Rt -> Bool) (n : FuncId) (f : Sym.Spec) (a : BkT) : Ann := { ann 49 [(n_part, C_part.spec dIX), (n_lines, C_lns.spec dBkS), (n_asked, s_askL), (n, f)] with E := [100, 101], loops := λ id => if id = 6 then some [be6 lt n a] else none }
def V_bestL (a : BkT) : Prop := fnVC Try.prog (A_best ltR n_less1 s_less1 a) F_best (bodyOf F_best) ((C_best ltR n_less1).xs a) (heapOf ((C_best ltR n_less1).L a)) ((C_best ltR n_less1).val a) ((C_best ltR n_less1).keep a) [] []
abbrev z_bestL_0 (a : BkT) : List Int := rng a.w.b.length λ (i : Nat) => gD a.w.b i
abbrev z_bestL_1 (a : BkT) : Nat := (z_bestL_0 a).length
abbrev z_bestL_2 (a : BkT) : Prop := z_bestL_1 a = a.w.b.length
abbrev z_bestL_3 (a : BkT) : Prop := ∀ (i : Nat), i < z_bestL_1 a -> gD (z_bestL_0 a) i = gD a.w.b i
abbrev z_bestL_4 (a : BkT) : Prop := List.Pairwise (λ (x1 x2 : Int) => x1 < x2) (z_bestL_0 a)
abbrev z_bestL_5 (a : BkT) : Nat := leC (z_bestL_0 a) a.st
abbrev z_bestL_6 (a : BkT) : List Gau := rng a.w.g.length λ (i : Nat) => gD a.w.g i
abbrev z_bestL_7 (a : BkT) : Nat := (z_bestL_6 a).length
abbrev z_bestL_8 (a : BkT) (i : Nat) : Gau := gD (z_bestL_6 a) i
abbrev z_bestL_9 : Value := Value.slice none (0 : Nat) (0 : Nat)
abbrev z_bestL_10 : Prop := z_bestL_9 = z_bestL_9
abbrev z_bestL_11 (a : BkT) : Bk := Bk.mk (z_bestL_6 a) (z_bestL_0 a) a.w.has a.w.st
abbrev z_bestL_12 (a : BkT) (n : Int) : List Ln := fdM (z_bestL_11 a) n
abbrev z_bestL_13 (a : BkT) (n : Int) : Nat := (z_bestL_12 a n).length
abbrev z_bestL_14 (a : BkT) (n : Int) (i : Nat) : Ln := gD (z_bestL_12 a n) i
abbrev z_bestL_15 (a : BkT) : Bk := upB (z_bestL_11 a) (↑(z_bestL_5 a) : Int)
abbrev z_bestL_16 (a : BkT) : List Gau := (z_bestL_15 a).g
abbrev z_bestL_17 (a : BkT) (i : Nat) : Gau := gD (z_bestL_16 a) i
abbrev z_bestL_18 (a : BkT) : List Int := (z_bestL_15 a).b
abbrev z_bestL_19 (a : BkT) : Prop := (0 : Int) <= a.st /\ a.st <= (2000 : Int)
abbrev z_bestL_20 (a : BkT) : List Ln := lnsM (sB (BkS.mk (z_bestL_11 a) (↑(z_bestL_5 a) : Int) a.st)) a.st
abbrev z_bestL_21 (a : BkT) : Nat := (z_bestL_20 a).length
abbrev z_bestL_22 (a : BkT) : Ln := bif decide ((lB a).length = (0 : Nat)) then default else bestM ltR a.st (lB a)
abbrev z_bestL_23 (a : BkT) : Int := (z_bestL_22 a).a0
abbrev z_bestL_24 (a : BkT) : Int := (z_bestL_22 a).a1
abbrev z_bestL_25 (a : BkT) : Int := (z_bestL_22 a).b0
abbrev z_bestL_26 (a : BkT) : Int := (z_bestL_22 a).b1
abbrev z_bestL_27 (a : BkT) : Bool := decide ((lB a).length ≠ (0 : Nat))
abbrev z_bestL_28 (a : BkT) : Prop := (upB a.w (kB a)).g.length = a.w.g.length
abbrev z_bestL_29 (i : Nat) (a : BkT) : Prop := i < (upB a.w (kB a)).g.length
abbrev z_bestL_30 (a : BkT) (i : Nat) : Gau := gD (upB a.w (kB a)).g i
abbrev z_bestL_31 (a : BkT) (i : Nat) : Int := (z_bestL_30 a i).st
abbrev z_bestL_32 (a : BkT) (i : Nat) : Int := (z_bestL_30 a i).lo
abbrev z_bestL_33 (a : BkT) (i : Nat) : Int := (z_bestL_30 a i).hi
abbrev z_bestL_34 (a : BkT) : Prop := ∀ (i : Nat), z_bestL_29 i a -> z_bestL_31 a i = (gD a.w.g i).st /\ z_bestL_32 a i = (gD a.w.g i).lo /\ z_bestL_33 a i = (gD a.w.g i).hi
abbrev z_bestL_35 (a : BkT) : Prop := (upB a.w (kB a)).b.length = a.w.b.length
abbrev z_bestL_36 (i : Nat) (a : BkT) : Prop := i < (upB a.w (kB a)).b.length
abbrev z_bestL_37 (a : BkT) (i : Nat) : Int := gD (upB a.w (kB a)).b i
abbrev z_bestL_38 (a : BkT) : Prop := ∀ (i : Nat), z_bestL_36 i a -> z_bestL_37 a i = gD a.w.b i
abbrev z_bestL_39 (a : BkT) : Prop := ∀ (n : Int), (upB a.w (kB a)).has n = (z_bestL_15 a).has n
abbrev z_bestL_40 (a : BkT) : Prop := ∀ (n : Int), (upB a.w (kB a)).st n = (z_bestL_15 a).st n
abbrev z_bestL_41 (a : BkT) (n : Int) : List Ln := fdM (z_bestL_15 a) n
abbrev z_bestL_42 (i : Nat) (a : BkT) (n : Int) : Prop := i < (fdM (upB a.w (kB a)) n).length
abbrev z_bestL_43 (a : BkT) (n : Int) (i : Nat) : Ln := gD (fdM (upB a.w (kB a)) n) i
abbrev z_bestL_44 (a : BkT) (n : Int) (i : Nat) : Int := (z_bestL_43 a n i).a0
abbrev z_bestL_45 (a : BkT) (n : Int) (i : Nat) : Ln := gD (z_bestL_41 a n) i
abbrev z_bestL_46 (a : BkT) (n : Int) (i : Nat) : Int := (z_bestL_43 a n i).a1
abbrev z_bestL_47 (a : BkT) (n : Int) (i : Nat) : Int := (z_bestL_43 a n i).b0
abbrev z_bestL_48 (a : BkT) (n : Int) (i : Nat) : Int := (z_bestL_43 a n i).b1
abbrev z_bestL_49 (a : BkT) : Prop := ∀ (n : Int), (fdM (upB a.w (kB a)) n).length = (z_bestL_41 a n).length /\ ∀ (i : Nat), z_bestL_42 i a n -> z_bestL_44 a n i = (z_bestL_45 a n i).a0 /\ z_bestL_46 a n i = (z_bestL_45 a n
 i).a1 /\ z_bestL_47 a n i = (z_bestL_45 a n i).b0 /\ z_bestL_48 a n i = (z_bestL_45 a n i).b1
abbrev z_bestL_50 (a : BkT) (i : Nat) : Ln := gD (z_bestL_20 a) i
abbrev z_bestL_51 : Prop := Int.ofNat (0 : Nat) = Int.ofNat (0 : Nat)
abbrev z_bestL_52 (a : BkT) : Ln := gD (z_bestL_20 a) (Int.toNat (0 : Int))
abbrev z_bestL_53 (a : Nat) (a1 : BkT) : Prop := (↑a : Int) < (↑(lB a1).length : Int)
abbrev z_bestL_54 (a : BkT) : Prop := (lB a).length = (lB a).length
abbrev z_bestL_55 (a : BkT) : Prop := ∀ (i : Nat), i < (lB a).length -> (gD (lB a) i).a0 = (gD (lB a) i).a0 /\ (gD (lB a) i).a1 = (gD (lB a) i).a1 /\ (gD (lB a) i).b0 = (gD (lB a) i).b0 /\ (gD (lB a) i).b1 = (gD (lB a) i).b1
abbrev z_bestL_56 (a : BkT) : Prop := (↑(lB a).length : Int) = (↑(lB a).length : Int)
abbrev z_bestL_57 (a : Nat) (a1 : Nat) : Prop := (↑a : Int) = IntKind.i64.wrap ((↑a1 : Int) + (1 : Int))
abbrev z_bestL_58 (a : BkT) : Prop := (upB a.w (kB a)).g.length = (upB a.w (kB a)).g.length
abbrev z_bestL_59 (a : BkT) : Prop := ∀ (i : Nat), z_bestL_29 i a -> z_bestL_31 a i = z_bestL_31 a i /\ z_bestL_32 a i = z_bestL_32 a i /\ z_bestL_33 a i = z_bestL_33 a i
abbrev z_bestL_60 (a : BkT) : Prop := (upB a.w (kB a)).b.length = (upB a.w (kB a)).b.length
abbrev z_bestL_61 (a : BkT) : Prop := ∀ (i : Nat), z_bestL_36 i a -> z_bestL_37 a i = z_bestL_37 a i
abbrev z_bestL_62 (a : BkT) : Prop := ∀ (n : Int), (upB a.w (kB a)).has n = (upB a.w (kB a)).has n
abbrev z_bestL_63 (a : BkT) : Prop := ∀ (n : Int), (upB a.w (kB a)).st n = (upB a.w (kB a)).st n
abbrev z_bestL_64 (a : BkT) : Prop := ∀ (n : Int), (fdM (upB a.w (kB a)) n).length = (fdM (upB a.w (kB a)) n).length /\ ∀ (i : Nat), z_bestL_42 i a n -> z_bestL_44 a n i = z_bestL_44 a n i /\ z_bestL_46 a n i = z_bestL_46 a
 n i /\ z_bestL_47 a n i = z_bestL_47 a n i /\ z_bestL_48 a n i = z_bestL_48 a n i
abbrev z_bestL_65 (a : BkT) (a1 : Nat) : Nat := (lB a).length - a1
abbrev z_bestL_66 (a : Nat) (a1 : BkT) (a2 : Nat) : Prop := a.le (lB a1).length /\ z_bestL_65 a1 a < z_bestL_65 a1 a2
theorem vc_bestL (a : BkT) : (V_bestL a) = ((z_bestL_2 a /\ z_bestL_3 a /\ a.st = a.st /\ (z_bestL_1 a < (4611686018427387904 : Nat) /\ z_bestL_4 a) /\ (↑(z_bestL_5 a) : Int) = (↑(z_bestL_5 a) : Int) /\ a.st = a.st /\ z_bestL_7
 a = a.w.g.length /\ (∀ (i : Nat), i < z_bestL_7 a -> (z_bestL_8 a i).st = (gD a.w.g i).st /\ (z_bestL_8 a i).lo = (gD a.w.g i).lo /\ (z_bestL_8 a i).hi = (gD a.w.g i).hi) /\ z_bestL_2 a /\ z_bestL_3 a /\ z_bestL_10 /\ (∀ (n :
 Int), a.w.has n = a.w.has n) /\ (∀ (n : Int), a.w.st n = a.w.st n) /\ (∀ (n : Int), z_bestL_13 a n = (fdM a.w n).length /\ ∀ (i : Nat), i < z_bestL_13 a n -> (z_bestL_14 a n i).a0 = (gD (fdM a.w n) i).a0 /\ (z_bestL_14 a n
 i).a1 = (gD (fdM a.w n) i).a1 /\ (z_bestL_14 a n i).b0 = (gD (fdM a.w n) i).b0 /\ (z_bestL_14 a n i).b1 = (gD (fdM a.w n) i).b1) /\ a.w.g.length = (z_bestL_16 a).length /\ (∀ (i : Nat), i < a.w.g.length -> (gD a.w.g i).st =
 (z_bestL_17 a i).st /\ (gD a.w.g i).lo = (z_bestL_17 a i).lo /\ (gD a.w.g i).hi = (z_bestL_17 a i).hi) /\ a.w.b.length = (z_bestL_18 a).length /\ (∀ (i : Nat), i < a.w.b.length -> gD a.w.b i = gD (z_bestL_18 a) i) /\
 (z_bestL_7 a <= (24 : Nat) /\ (∀ (x : Gau), List.Mem x (z_bestL_6 a) -> (0 : Int) <= x.st /\ x.st <= (2000 : Int) /\ (0 : Int) <= x.lo /\ x.lo <= x.hi /\ x.hi <= (200000 : Int)) /\ z_bestL_1 a <= (24 : Nat) /\ z_bestL_4 a /\ ∀ (x :
 Int), List.Mem x (z_bestL_0 a) -> (1 : Int) <= x /\ x <= (2000 : Int)) /\ z_bestL_19 a) /\ bif (↑(z_bestL_21 a) : Int) == (0 : Int) then z_bestL_23 a = (0 : Int) /\ z_bestL_24 a = (0 : Int) /\ z_bestL_25 a = (0 : Int) /\
 z_bestL_26 a = (0 : Int) /\ z_bestL_27 a = false /\ z_bestL_28 a /\ z_bestL_34 a /\ z_bestL_35 a /\ z_bestL_38 a /\ z_bestL_10 /\ z_bestL_39 a /\ z_bestL_40 a /\ z_bestL_49 a else ((0 : Int) <= (0 : Int) /\ (0 : Int) <
 (↑(z_bestL_21 a) : Int)) /\ (∃ (a_1 : Nat), (a.st = a.st /\ (lB a).length = z_bestL_21 a /\ (∀ (i : Nat), i < (lB a).length -> (gD (lB a) i).a0 = (z_bestL_50 a i).a0 /\ (gD (lB a) i).a1 = (z_bestL_50 a i).a1 /\ (gD (lB a)
 i).b0 = (z_bestL_50 a i).b0 /\ (gD (lB a) i).b1 = (z_bestL_50 a i).b1) /\ (↑(lB a).length : Int) = (↑(z_bestL_21 a) : Int) /\ (↑a_1 : Int) = (0 : Int) /\ z_bestL_28 a /\ z_bestL_34 a /\ z_bestL_35 a /\ z_bestL_38 a /\ z_bestL_10
 /\ z_bestL_39 a /\ z_bestL_40 a /\ z_bestL_49 a /\ z_bestL_51 /\ z_bestL_51 /\ z_bestL_51 /\ z_bestL_51 /\ (bestK ltR a.st (lB a) a_1).a0 = (z_bestL_52 a).a0 /\ (bestK ltR a.st (lB a) a_1).a1 = (z_bestL_52 a).a1 /\ (bestK ltR a.st
 (lB a) a_1).b0 = (z_bestL_52 a).b0 /\ (bestK ltR a.st (lB a) a_1).b1 = (z_bestL_52 a).b1) /\ a_1.le (lB a).length) /\ ∀ (a_1 : Nat), a_1.le (lB a).length -> bif decide (z_bestL_53 a_1 a) then ((0 : Int) <= (↑a_1 : Int) /\
 z_bestL_53 a_1 a) /\ (((0 : Int) <= (gD (lB a) a_1).a0 /\ (gD (lB a) a_1).a0 < (gD (lB a) a_1).b0 /\ (gD (lB a) a_1).b0 <= (2000 : Int) /\ (0 : Int) <= (gD (lB a) a_1).a1 /\ (gD (lB a) a_1).a1 <= (gD (lB a) a_1).b1 /\ (gD (lB a)
 a_1).b1 <= (200000 : Int)) /\ z_bestL_19 a /\ ((0 : Int) <= (bestK ltR a.st (lB a) a_1).a0 /\ (bestK ltR a.st (lB a) a_1).a0 < (bestK ltR a.st (lB a) a_1).b0 /\ (bestK ltR a.st (lB a) a_1).b0 <= (2000 : Int) /\ (0 : Int) <=
 (bestK ltR a.st (lB a) a_1).a1 /\ (bestK ltR a.st (lB a) a_1).a1 <= (bestK ltR a.st (lB a) a_1).b1 /\ (bestK ltR a.st (lB a) a_1).b1 <= (200000 : Int)) /\ z_bestL_19 a) /\ bif decide (cmpR (flowM (gD (lB a) a_1) a.st) (flowM
 (bestK ltR a.st (lB a) a_1) a.st) < (0 : Int)) then ∃ (a_3 : Nat), (a.st = a.st /\ z_bestL_54 a /\ z_bestL_55 a /\ z_bestL_56 a /\ z_bestL_57 a_3 a_1 /\ z_bestL_58 a /\ z_bestL_59 a /\ z_bestL_60 a /\ z_bestL_61 a /\ z_bestL_10 /\
 z_bestL_62 a /\ z_bestL_63 a /\ z_bestL_64 a /\ z_bestL_51 /\ z_bestL_51 /\ z_bestL_51 /\ z_bestL_51 /\ (bestK ltR a.st (lB a) a_3).a0 = (gD (lB a) a_1).a0 /\ (bestK ltR a.st (lB a) a_3).a1 = (gD (lB a) a_1).a1 /\ (bestK ltR a.st
 (lB a) a_3).b0 = (gD (lB a) a_1).b0 /\ (bestK ltR a.st (lB a) a_3).b1 = (gD (lB a) a_1).b1) /\ z_bestL_66 a_3 a a_1 else ∃ (a_3 : Nat), (a.st = a.st /\ z_bestL_54 a /\ z_bestL_55 a /\ z_bestL_56 a /\ z_bestL_57 a_3 a_1 /\
 z_bestL_58 a /\ z_bestL_59 a /\ z_bestL_60 a /\ z_bestL_61 a /\ z_bestL_10 /\ z_bestL_62 a /\ z_bestL_63 a /\ z_bestL_64 a /\ z_bestL_51 /\ z_bestL_51 /\ z_bestL_51 /\ z_bestL_51 /\ (bestK ltR a.st (lB a) a_3).a0 = (bestK ltR a.st
 (lB a) a_1).a0 /\ (bestK ltR a.st (lB a) a_3).a1 = (bestK ltR a.st (lB a) a_1).a1 /\ (bestK ltR a.st (lB a) a_3).b0 = (bestK ltR a.st (lB a) a_1).b0 /\ (bestK ltR a.st (lB a) a_3).b1 = (bestK ltR a.st (lB a) a_1).b1) /\
 z_bestL_66 a_3 a a_1 else z_bestL_23 a = (bestK ltR a.st (lB a) a_1).a0 /\ z_bestL_24 a = (bestK ltR a.st (lB a) a_1).a1 /\ z_bestL_25 a = (bestK ltR a.st (lB a) a_1).b0 /\ z_bestL_26 a = (bestK ltR a.st (lB a) a_1).b1 /\
 z_bestL_27 a = true /\ z_bestL_58 a /\ z_bestL_59 a /\ z_bestL_60 a /\ z_bestL_61 a /\ z_bestL_10 /\ z_bestL_62 a /\ z_bestL_63 a /\ z_bestL_64 a) := by kernel_rfl
def V_bestM (a : BkT) : Prop := fnVC Try.prog (A_best gtR n_more1 s_more1 a) F_best (bodyOf F_best) ((C_best gtR n_more1).xs a) (heapOf ((C_best gtR n_more1).L a)) ((C_best gtR n_more1).val a) ((C_best gtR n_more1).keep a) [] []
abbrev z_bestM_0 (a : BkT) : List Int := rng a.w.b.length λ (i : Nat) => gD a.w.b i
abbrev z_bestM_1 (a : BkT) : Nat := (z_bestM_0 a).length
abbrev z_bestM_2 (a : BkT) : Prop := z_bestM_1 a = a.w.b.length
abbrev z_bestM_3 (a : BkT) : Prop := ∀ (i : Nat), i < z_bestM_1 a -> gD (z_bestM_0 a) i = gD a.w.b i
abbrev z_bestM_4 (a : BkT) : Prop := List.Pairwise (λ (x1 x2 : Int) => x1 < x2) (z_bestM_0 a)
abbrev z_bestM_5 (a : BkT) : Nat := leC (z_bestM_0 a) a.st
abbrev z_bestM_6 (a : BkT) : List Gau := rng a.w.g.length λ (i : Nat) => gD a.w.g i
abbrev z_bestM_7 (a : BkT) : Nat := (z_bestM_6 a).length
abbrev z_bestM_8 (a : BkT) (i : Nat) : Gau := gD (z_bestM_6 a) i
abbrev z_bestM_9 : Value := Value.slice none (0 : Nat) (0 : Nat)
abbrev z_bestM_10 : Prop := z_bestM_9 = z_bestM_9
abbrev z_bestM_11 (a : BkT) : Bk := Bk.mk (z_bestM_6 a) (z_bestM_0 a) a.w.has a.w.st
abbrev z_bestM_12 (a : BkT) (n : Int) : List Ln := fdM (z_bestM_11 a) n
abbrev z_bestM_13 (a : BkT) (n : Int) : Nat := (z_bestM_12 a n).length
abbrev z_bestM_14 (a : BkT) (n : Int) (i : Nat) : Ln := gD (z_bestM_12 a n) i
abbrev z_bestM_15 (a : BkT) : Bk := upB (z_bestM_11 a) (↑(z_bestM_5 a) : Int)
abbrev z_bestM_16 (a : BkT) : List Gau := (z_bestM_15 a).g
abbrev z_bestM_17 (a : BkT) (i : Nat) : Gau := gD (z_bestM_16 a) i
abbrev z_bestM_18 (a : BkT) : List Int := (z_bestM_15 a).b
abbrev z_bestM_19 (a : BkT) : Prop := (0 : Int) <= a.st /\ a.st <= (2000 : Int)
abbrev z_bestM_20 (a : BkT) : List Ln := lnsM (sB (BkS.mk (z_bestM_11 a) (↑(z_bestM_5 a) : Int) a.st)) a.st
abbrev z_bestM_21 (a : BkT) : Nat := (z_bestM_20 a).length
abbrev z_bestM_22 (a : BkT) : Ln := bif decide ((lB a).length = (0 : Nat)) then default else bestM gtR a.st (lB a)
abbrev z_bestM_23 (a : BkT) : Int := (z_bestM_22 a).a0
abbrev z_bestM_24 (a : BkT) : Int := (z_bestM_22 a).a1
abbrev z_bestM_25 (a : BkT) : Int := (z_bestM_22 a).b0
abbrev z_bestM_26 (a : BkT) : Int := (z_bestM_22 a).b1
abbrev z_bestM_27 (a : BkT) : Bool := decide ((lB a).length ≠ (0 : Nat))
abbrev z_bestM_28 (a : BkT) : Prop := (upB a.w (kB a)).g.length = a.w.g.length
abbrev z_bestM_29 (i : Nat) (a : BkT) : Prop := i < (upB a.w (kB a)).g.length
abbrev z_bestM_30 (a : BkT) (i : Nat) : Gau := gD (upB a.w (kB a)).g i
abbrev z_bestM_31 (a : BkT) (i : Nat) : Int := (z_bestM_30 a i).st
abbrev z_bestM_32 (a : BkT) (i : Nat) : Int := (z_bestM_30 a i).lo
abbrev z_bestM_33 (a : BkT) (i : Nat) : Int := (z_bestM_30 a i).hi
abbrev z_bestM_34 (a : BkT) : Prop := ∀ (i : Nat), z_bestM_29 i a -> z_bestM_31 a i = (gD a.w.g i).st /\ z_bestM_32 a i = (gD a.w.g i).lo /\ z_bestM_33 a i = (gD a.w.g i).hi
abbrev z_bestM_35 (a : BkT) : Prop := (upB a.w (kB a)).b.length = a.w.b.length
abbrev z_bestM_36 (i : Nat) (a : BkT) : Prop := i < (upB a.w (kB a)).b.length
abbrev z_bestM_37 (a : BkT) (i : Nat) : Int := gD (upB a.w (kB a)).b i
abbrev z_bestM_38 (a : BkT) : Prop := ∀ (i : Nat), z_bestM_36 i a -> z_bestM_37 a i = gD a.w.b i
abbrev z_bestM_39 (a : BkT) : Prop := ∀ (n : Int), (upB a.w (kB a)).has n = (z_bestM_15 a).has n
abbrev z_bestM_40 (a : BkT) : Prop := ∀ (n : Int), (upB a.w (kB a)).st n = (z_bestM_15 a).st n
abbrev z_bestM_41 (a : BkT) (n : Int) : List Ln := fdM (z_bestM_15 a) n
abbrev z_bestM_42 (i : Nat) (a : BkT) (n : Int) : Prop := i < (fdM (upB a.w (kB a)) n).length
abbrev z_bestM_43 (a : BkT) (n : Int) (i : Nat) : Ln := gD (fdM (upB a.w (kB a)) n) i
abbrev z_bestM_44 (a : BkT) (n : Int) (i : Nat) : Int := (z_bestM_43 a n i).a0
abbrev z_bestM_45 (a : BkT) (n : Int) (i : Nat) : Ln := gD (z_bestM_41 a n) i
abbrev z_bestM_46 (a : BkT) (n : Int) (i : Nat) : Int := (z_bestM_43 a n i).a1
abbrev z_bestM_47 (a : BkT) (n : Int) (i : Nat) : Int := (z_bestM_43 a n i).b0
abbrev z_bestM_48 (a : BkT) (n : Int) (i : Nat) : Int := (z_bestM_43 a n i).b1
abbrev z_bestM_49 (a : BkT) : Prop := ∀ (n : Int), (fdM (upB a.w (kB a)) n).length = (z_bestM_41 a n).length /\ ∀ (i : Nat), z_bestM_42 i a n -> z_bestM_44 a n i = (z_bestM_45 a n i).a0 /\ z_bestM_46 a n i = (z_bestM_45 a n
 i).a1 /\ z_bestM_47 a n i = (z_bestM_45 a n i).b0 /\ z_bestM_48 a n i = (z_bestM_45 a n i).b1
abbrev z_bestM_50 (a : BkT) (i : Nat) : Ln := gD (z_bestM_20 a) i
abbrev z_bestM_51 : Prop := Int.ofNat (0 : Nat) = Int.ofNat (0 : Nat)
abbrev z_bestM_52 (a : BkT) : Ln := gD (z_bestM_20 a) (Int.toNat (0 : Int))
abbrev z_bestM_53 (a : Nat) (a1 : BkT) : Prop := (↑a : Int) < (↑(lB a1).length : Int)
abbrev z_bestM_54 (a : BkT) : Prop := (lB a).length = (lB a).length
abbrev z_bestM_55 (a : BkT) : Prop := ∀ (i : Nat), i < (lB a).length -> (gD (lB a) i).a0 = (gD (lB a) i).a0 /\ (gD (lB a) i).a1 = (gD (lB a) i).a1 /\ (gD (lB a) i).b0 = (gD (lB a) i).b0 /\ (gD (lB a) i).b1 = (gD (lB a) i).b1
abbrev z_bestM_56 (a : BkT) : Prop := (↑(lB a).length : Int) = (↑(lB a).length : Int)
abbrev z_bestM_57 (a : Nat) (a1 : Nat) : Prop := (↑a : Int) = IntKind.i64.wrap ((↑a1 : Int) + (1 : Int))
abbrev z_bestM_58 (a : BkT) : Prop := (upB a.w (kB a)).g.length = (upB a.w (kB a)).g.length
abbrev z_bestM_59 (a : BkT) : Prop := ∀ (i : Nat), z_bestM_29 i a -> z_bestM_31 a i = z_bestM_31 a i /\ z_bestM_32 a i = z_bestM_32 a i /\ z_bestM_33 a i = z_bestM_33 a i
abbrev z_bestM_60 (a : BkT) : Prop := (upB a.w (kB a)).b.length = (upB a.w (kB a)).b.length
abbrev z_bestM_61 (a : BkT) : Prop := ∀ (i : Nat), z_bestM_36 i a -> z_bestM_37 a i = z_bestM_37 a i
abbrev z_bestM_62 (a : BkT) : Prop := ∀ (n : Int), (upB a.w (kB a)).has n = (upB a.w (kB a)).has n
abbrev z_bestM_63 (a : BkT) : Prop := ∀ (n : Int), (upB a.w (kB a)).st n = (upB a.w (kB a)).st n
abbrev z_bestM_64 (a : BkT) : Prop := ∀ (n : Int), (fdM (upB a.w (kB a)) n).length = (fdM (upB a.w (kB a)) n).length /\ ∀ (i : Nat), z_bestM_42 i a n -> z_bestM_44 a n i = z_bestM_44 a n i /\ z_bestM_46 a n i = z_bestM_46 a
 n i /\ z_bestM_47 a n i = z_bestM_47 a n i /\ z_bestM_48 a n i = z_bestM_48 a n i
abbrev z_bestM_65 (a : BkT) (a1 : Nat) : Nat := (lB a).length - a1
abbrev z_bestM_66 (a : Nat) (a1 : BkT) (a2 : Nat) : Prop := a.le (lB a1).length /\ z_bestM_65 a1 a < z_bestM_65 a1 a2
theorem vc_bestM (a : BkT) : (V_bestM a) = ((z_bestM_2 a /\ z_bestM_3 a /\ a.st = a.st /\ (z_bestM_1 a < (4611686018427387904 : Nat) /\ z_bestM_4 a) /\ (↑(z_bestM_5 a) : Int) = (↑(z_bestM_5 a) : Int) /\ a.st = a.st /\ z_bestM_7
 a = a.w.g.length /\ (∀ (i : Nat), i < z_bestM_7 a -> (z_bestM_8 a i).st = (gD a.w.g i).st /\ (z_bestM_8 a i).lo = (gD a.w.g i).lo /\ (z_bestM_8 a i).hi = (gD a.w.g i).hi) /\ z_bestM_2 a /\ z_bestM_3 a /\ z_bestM_10 /\ (∀ (n :
 Int), a.w.has n = a.w.has n) /\ (∀ (n : Int), a.w.st n = a.w.st n) /\ (∀ (n : Int), z_bestM_13 a n = (fdM a.w n).length /\ ∀ (i : Nat), i < z_bestM_13 a n -> (z_bestM_14 a n i).a0 = (gD (fdM a.w n) i).a0 /\ (z_bestM_14 a n
 i).a1 = (gD (fdM a.w n) i).a1 /\ (z_bestM_14 a n i).b0 = (gD (fdM a.w n) i).b0 /\ (z_bestM_14 a n i).b1 = (gD (fdM a.w n) i).b1) /\ a.w.g.length = (z_bestM_16 a).length /\ (∀ (i : Nat), i < a.w.g.length -> (gD a.w.g i).st =
 (z_bestM_17 a i).st /\ (gD a.w.g i).lo = (z_bestM_17 a i).lo /\ (gD a.w.g i).hi = (z_bestM_17 a i).hi) /\ a.w.b.length = (z_bestM_18 a).length /\ (∀ (i : Nat), i < a.w.b.length -> gD a.w.b i = gD (z_bestM_18 a) i) /\
 (z_bestM_7 a <= (24 : Nat) /\ (∀ (x : Gau), List.Mem x (z_bestM_6 a) -> (0 : Int) <= x.st /\ x.st <= (2000 : Int) /\ (0 : Int) <= x.lo /\ x.lo <= x.hi /\ x.hi <= (200000 : Int)) /\ z_bestM_1 a <= (24 : Nat) /\ z_bestM_4 a /\ ∀ (x :
 Int), List.Mem x (z_bestM_0 a) -> (1 : Int) <= x /\ x <= (2000 : Int)) /\ z_bestM_19 a) /\ bif (↑(z_bestM_21 a) : Int) == (0 : Int) then z_bestM_23 a = (0 : Int) /\ z_bestM_24 a = (0 : Int) /\ z_bestM_25 a = (0 : Int) /\
 z_bestM_26 a = (0 : Int) /\ z_bestM_27 a = false /\ z_bestM_28 a /\ z_bestM_34 a /\ z_bestM_35 a /\ z_bestM_38 a /\ z_bestM_10 /\ z_bestM_39 a /\ z_bestM_40 a /\ z_bestM_49 a else ((0 : Int) <= (0 : Int) /\ (0 : Int) <
 (↑(z_bestM_21 a) : Int)) /\ (∃ (a_1 : Nat), (a.st = a.st /\ (lB a).length = z_bestM_21 a /\ (∀ (i : Nat), i < (lB a).length -> (gD (lB a) i).a0 = (z_bestM_50 a i).a0 /\ (gD (lB a) i).a1 = (z_bestM_50 a i).a1 /\ (gD (lB a)
 i).b0 = (z_bestM_50 a i).b0 /\ (gD (lB a) i).b1 = (z_bestM_50 a i).b1) /\ (↑(lB a).length : Int) = (↑(z_bestM_21 a) : Int) /\ (↑a_1 : Int) = (0 : Int) /\ z_bestM_28 a /\ z_bestM_34 a /\ z_bestM_35 a /\ z_bestM_38 a /\ z_bestM_10
 /\ z_bestM_39 a /\ z_bestM_40 a /\ z_bestM_49 a /\ z_bestM_51 /\ z_bestM_51 /\ z_bestM_51 /\ z_bestM_51 /\ (bestK gtR a.st (lB a) a_1).a0 = (z_bestM_52 a).a0 /\ (bestK gtR a.st (lB a) a_1).a1 = (z_bestM_52 a).a1 /\ (bestK gtR a.st
 (lB a) a_1).b0 = (z_bestM_52 a).b0 /\ (bestK gtR a.st (lB a) a_1).b1 = (z_bestM_52 a).b1) /\ a_1.le (lB a).length) /\ ∀ (a_1 : Nat), a_1.le (lB a).length -> bif decide (z_bestM_53 a_1 a) then ((0 : Int) <= (↑a_1 : Int) /\
 z_bestM_53 a_1 a) /\ (((0 : Int) <= (gD (lB a) a_1).a0 /\ (gD (lB a) a_1).a0 < (gD (lB a) a_1).b0 /\ (gD (lB a) a_1).b0 <= (2000 : Int) /\ (0 : Int) <= (gD (lB a) a_1).a1 /\ (gD (lB a) a_1).a1 <= (gD (lB a) a_1).b1 /\ (gD (lB a)
 a_1).b1 <= (200000 : Int)) /\ z_bestM_19 a /\ ((0 : Int) <= (bestK gtR a.st (lB a) a_1).a0 /\ (bestK gtR a.st (lB a) a_1).a0 < (bestK gtR a.st (lB a) a_1).b0 /\ (bestK gtR a.st (lB a) a_1).b0 <= (2000 : Int) /\ (0 : Int) <=
 (bestK gtR a.st (lB a) a_1).a1 /\ (bestK gtR a.st (lB a) a_1).a1 <= (bestK gtR a.st (lB a) a_1).b1 /\ (bestK gtR a.st (lB a) a_1).b1 <= (200000 : Int)) /\ z_bestM_19 a) /\ bif decide (cmpR (flowM (gD (lB a) a_1) a.st) (flowM
 (bestK gtR a.st (lB a) a_1) a.st) > (0 : Int)) then ∃ (a_3 : Nat), (a.st = a.st /\ z_bestM_54 a /\ z_bestM_55 a /\ z_bestM_56 a /\ z_bestM_57 a_3 a_1 /\ z_bestM_58 a /\ z_bestM_59 a /\ z_bestM_60 a /\ z_bestM_61 a /\ z_bestM_10 /\
 z_bestM_62 a /\ z_bestM_63 a /\ z_bestM_64 a /\ z_bestM_51 /\ z_bestM_51 /\ z_bestM_51 /\ z_bestM_51 /\ (bestK gtR a.st (lB a) a_3).a0 = (gD (lB a) a_1).a0 /\ (bestK gtR a.st (lB a) a_3).a1 = (gD (lB a) a_1).a1 /\ (bestK gtR a.st
 (lB a) a_3).b0 = (gD (lB a) a_1).b0 /\ (bestK gtR a.st (lB a) a_3).b1 = (gD (lB a) a_1).b1) /\ z_bestM_66 a_3 a a_1 else ∃ (a_3 : Nat), (a.st = a.st /\ z_bestM_54 a /\ z_bestM_55 a /\ z_bestM_56 a /\ z_bestM_57 a_3 a_1 /\
 z_bestM_58 a /\ z_bestM_59 a /\ z_bestM_60 a /\ z_bestM_61 a /\ z_bestM_10 /\ z_bestM_62 a /\ z_bestM_63 a /\ z_bestM_64 a /\ z_bestM_51 /\ z_bestM_51 /\ z_bestM_51 /\ z_bestM_51 /\ (bestK gtR a.st (lB a) a_3).a0 = (bestK gtR a.st
 (lB a) a_1).a0 /\ (bestK gtR a.st (lB a) a_3).a1 = (bestK gtR a.st (lB a) a_1).a1 /\ (bestK gtR a.st (lB a) a_3).b0 = (bestK gtR a.st (lB a) a_1).b0 /\ (bestK gtR a.st (lB a) a_3).b1 = (bestK gtR a.st (lB a) a_1).b1) /\
 z_bestM_66 a_3 a a_1 else z_bestM_23 a = (bestK gtR a.st (lB a) a_1).a0 /\ z_bestM_24 a = (bestK gtR a.st (lB a) a_1).a1 /\ z_bestM_25 a = (bestK gtR a.st (lB a) a_1).b0 /\ z_bestM_26 a = (bestK gtR a.st (lB a) a_1).b1 /\
 z_bestM_27 a = true /\ z_bestM_58 a /\ z_bestM_59 a /\ z_bestM_60 a /\ z_bestM_61 a /\ z_bestM_10 /\ z_bestM_62 a /\ z_bestM_63 a /\ z_bestM_64 a) := by kernel_rfl
theorem bestK_succ {lt : Rt -> Rt -> Bool} {t : Int} {l : List Ln} {i : Nat} (h : i < l.length) : bestK lt t l (i + 1) = pickM lt t (bestK lt t l i) (gD l i) := by
 unfold bestK; rw [take_snoc h, List.foldl_append]; rfl
theorem bestK_all {lt : Rt -> Rt -> Bool} {t : Int} {l : List Ln} : bestK lt t l l.length = bestM lt t l := by unfold bestK bestM; rw [List.take_length]
theorem pick_ok {lt : Rt -> Rt -> Bool} {t : Int} : ∀ (l : List Ln) (b : Ln), (∀ x ∈ l, okL x) -> okL b -> okL (l.foldl (pickM lt t) b)
 | [], _, _, hb => hb
 | x :: l, b, h, hb => by
  rw [List.foldl_cons]
  refine pick_ok l _ (λ y hy => h y (by simp [hy])) ?_
  unfold pickM; cases lt (flowM x t) (flowM b t)
  ·exact hb
  ·exact h x (by simp)
theorem bestK_ok {lt : Rt -> Rt -> Bool} {t : Int} {l : List Ln} {i : Nat} (h : ∀ x ∈ l, okL x) (h0 : 0 < l.length) : okL (bestK lt t l i) :=
 pick_ok _ _ (λ x hx => h x (List.mem_of_mem_take hx)) (h _ (gD_mem h0))
theorem thru_ok {s : List Gau} (h : ∀ g ∈ s, okG g) : ∀ x ∈ thruM s, okL x := λ x hx => by
 unfold thruM at hx
 obtain ⟨p, hp, hx⟩ := List.mem_flatMap.1 hx
 unfold blk at hx
 rcases List.mem_cons.1 hx with rfl | hx
 ·exact lev_ok (ends_ok h hp)
 ·exact riL_ok.1 (List.mem_filter.1 hx).2
theorem lns_ok {s : List Gau} {t : Int} (h : ∀ g ∈ s, okG g) : ∀ x ∈ lnsM s t, okL x := λ x hx => by
 rw [lnsM_c] at hx
 revert hx
 cases (bif decide ((s.length : Int) > 0) then ((flM s).length : Int) == 0 else false) with
 | true => intro hx; cases hx
 | false =>
  intro hx
  rcases List.mem_append.1 hx with hx | hx
  ·exact thru_ok h x (List.mem_filter.1 hx).1
  ·have := (List.mem_filter.1 hx).2
   unfold okX at this
   cases hr : riL x with
   | true => exact riL_ok.1 hr
   | false => rw [hr] at this; cases this
theorem lB_ok {a : BkT} (h : bkOk a.w.g a.w.b) : (lB a).length <= 10098 /\ ∀ x ∈ lB a, okL x := by
 obtain ⟨hs, hN, hg⟩ := sB_ok (a := ⟨a.w, kB a, a.st⟩) h
 refine ⟨?_, lns_ok hg⟩
 show (lnsM (sB ⟨a.w, kB a, a.st⟩) a.st).length <= _
 have h1 := flM_len hN
 have h2 := List.length_filter_le (okX (sB ⟨a.w, kB a, a.st⟩)) (moM (sB ⟨a.w, kB a, a.st⟩) a.st)
 have h3 := moM_len (s := sB ⟨a.w, kB a, a.st⟩) (t := a.st)
 rw [lnsM_c]
 cases (bif decide (((sB ⟨a.w, kB a, a.st⟩).length : Int) > 0) then ((flM (sB ⟨a.w, kB a, a.st⟩)).length : Int) == 0 else false) with
 | true => exact Nat.zero_le _
 | false => rw [cond_false, List.length_append]; omega
theorem p_bestL (a : BkT) (h : bkOk a.w.g a.w.b) (h2 : 0 <= a.st /\ a.st <= 2000) : V_bestL a := by
 rw [vc_bestL]; delta z_bestL_0 z_bestL_1 z_bestL_2 z_bestL_3 z_bestL_4 z_bestL_5 z_bestL_6 z_bestL_7 z_bestL_8 z_bestL_9 z_bestL_10 z_bestL_11 z_bestL_12 z_bestL_13 z_bestL_14 z_bestL_15 z_bestL_16 z_bestL_17 z_bestL_18 z_bestL_19 z_bestL_20 z_bestL_21 z_bestL_22 z_bestL_23 z_bestL_24 z_bestL_25 z_bestL_26 z_bestL_27 z_bestL_28 z_bestL_29 z_bestL_30 z_bestL_31 z_bestL_32 z_bestL_33 z_bestL_34 z_bestL_35 z_bestL_36 z_bestL_37 z_bestL_38 z_bestL_39 z_bestL_40 z_bestL_41 z_bestL_42 z_bestL_43 z_bestL_44 z_bestL_45 z_bestL_46 z_bestL_47 z_bestL_48 z_bestL_49 z_bestL_50 z_bestL_51 z_bestL_52 z_bestL_53 z_bestL_54 z_bestL_55 z_bestL_56 z_bestL_57 z_bestL_58 z_bestL_59 z_bestL_60 z_bestL_61 z_bestL_62 z_bestL_63 z_bestL_64 z_bestL_65 z_bestL_66; simp only [condP, eq_self, implies_true, and_self, true_and, and_true, true_implies, forall_const, decide_eq_true_eq, decide_eq_false_iff_not, Int.toNat_natCast, dSpan_eSpan, dInt_eInt, dGau_e, dPt_e, dLn_e, dRt_e, Nat.zero_add, Int.zero_sub, Nat.le_eq, Nat.succ_eq_add_one, Nat.add_one_le_iff, Bool.not_eq_true', Bool.not_eq_false', rng_length, dSpan_mk, rng_getD, bk_eta, show leC a.w.b a.st = kB a from rfl, show (BkS.mk a.w (kB a) a.st).w = a.w from rfl, show lnsM (sB (BkS.mk a.w (kB a) a.st)) a.st = lB a from rfl, if_true]
 obtain ⟨hl, hok⟩ := lB_ok h
 refine ⟨⟨⟨by have := h.2.2.1; omega, h.2.2.2.1⟩, rfl, λ _ _ => ⟨rfl, rfl, rfl⟩, rfl, λ _ _ => rfl, h, h2⟩, λ hc => ?_, λ hc => ?_⟩
 ·have hc : (lB a).length = 0 := by simpa using hc
  rw [decide_eq_true hc]
  exact ⟨rfl, rfl, rfl, rfl, by omega, rfl, λ _ _ => ⟨rfl, rfl, rfl⟩, rfl, λ _ _ => rfl⟩
 ·have hc : (lB a).length ≠ 0 := by simpa using hc
  have hb : ∀ i, okL (bestK ltR a.st (lB a) i) := λ i => bestK_ok hok (by omega)
  refine ⟨⟨by omega, by omega⟩, ⟨0, ⟨rfl, rfl, λ _ _ => ⟨rfl, rfl, rfl⟩, rfl, λ _ _ => rfl, rfl, rfl, rfl, rfl⟩, Nat.zero_le _⟩, λ i hi => ⟨λ hlt => ?_, λ hge => ?_⟩⟩
  ·have hlt' : i < (lB a).length := Int.ofNat_lt.1 hlt
   refine ⟨⟨by omega, hlt⟩, ⟨hok _ (gD_mem hlt'), h2, hb i, h2⟩, λ hp => ⟨i + 1, ⟨(wsucc (by omega)).symm, ?_⟩, hlt', by omega⟩, λ hp => ⟨i + 1, ⟨(wsucc (by omega)).symm, ?_⟩, hlt', by omega⟩⟩
   ·rw [bestK_succ hlt', pickM, show ltR _ _ = true from decide_eq_true hp]; exact ⟨rfl, rfl, rfl, rfl⟩
   ·rw [bestK_succ hlt', pickM, show ltR _ _ = false from decide_eq_false hp]; exact ⟨rfl, rfl, rfl, rfl⟩
  ·rw [decide_eq_false hc, show i = (lB a).length by omega, bestK_all]
   exact ⟨rfl, rfl, rfl, rfl, hc⟩
theorem ok_bestL : SpecOk Try.prog n_best ((C_best ltR n_less1).spec (dBkT n_less1)) := okC (C_best ltR n_less1) (A_best ltR n_less1 s_less1) [] [] fn_best (λ _ => by kernel_rfl) (λ _ => gok_cons ok_part (gok_cons ok_lns (gok_cons ok_askL (gok_cons ok_less1 gok_nil)))) (λ (a : BkT) h => by
 have h : bkOk a.w.g a.w.b /\ 0 <= a.st /\ a.st <= 2000 := h
 exact p_bestL a h.1 h.2) (λ _ => noI rfl rfl) _
theorem p_bestM (a : BkT) (h : bkOk a.w.g a.w.b) (h2 : 0 <= a.st /\ a.st <= 2000) : V_bestM a := by
 rw [vc_bestM]; delta z_bestM_0 z_bestM_1 z_bestM_2 z_bestM_3 z_bestM_4 z_bestM_5 z_bestM_6 z_bestM_7 z_bestM_8 z_bestM_9 z_bestM_10 z_bestM_11 z_bestM_12 z_bestM_13 z_bestM_14 z_bestM_15 z_bestM_16 z_bestM_17 z_bestM_18 z_bestM_19 z_bestM_20 z_bestM_21 z_bestM_22 z_bestM_23 z_bestM_24 z_bestM_25 z_bestM_26 z_bestM_27 z_bestM_28 z_bestM_29 z_bestM_30 z_bestM_31 z_bestM_32 z_bestM_33 z_bestM_34 z_bestM_35 z_bestM_36 z_bestM_37 z_bestM_38 z_bestM_39 z_bestM_40 z_bestM_41 z_bestM_42 z_bestM_43 z_bestM_44 z_bestM_45 z_bestM_46 z_bestM_47 z_bestM_48 z_bestM_49 z_bestM_50 z_bestM_51 z_bestM_52 z_bestM_53 z_bestM_54 z_bestM_55 z_bestM_56 z_bestM_57 z_bestM_58 z_bestM_59 z_bestM_60 z_bestM_61 z_bestM_62 z_bestM_63 z_bestM_64 z_bestM_65 z_bestM_66; simp only [condP, eq_self, implies_true, and_self, true_and, and_true, true_implies, forall_const, decide_eq_true_eq, decide_eq_false_iff_not, Int.toNat_natCast, dSpan_eSpan, dInt_eInt, dGau_e, dPt_e, dLn_e, dRt_e, Nat.zero_add, Int.zero_sub, Nat.le_eq, Nat.succ_eq_add_one, Nat.add_one_le_iff, Bool.not_eq_true', Bool.not_eq_false', rng_length, dSpan_mk, rng_getD, bk_eta, show leC a.w.b a.st = kB a from rfl, show (BkS.mk a.w (kB a) a.st).w = a.w from rfl, show lnsM (sB (BkS.mk a.w (kB a) a.st)) a.st = lB a from rfl, if_true]
 obtain ⟨hl, hok⟩ := lB_ok h
 refine ⟨⟨⟨by have := h.2.2.1; omega, h.2.2.2.1⟩, rfl, λ _ _ => ⟨rfl, rfl, rfl⟩, rfl, λ _ _ => rfl, h, h2⟩, λ hc => ?_, λ hc => ?_⟩
 ·have hc : (lB a).length = 0 := by simpa using hc
  rw [decide_eq_true hc]
  exact ⟨rfl, rfl, rfl, rfl, by omega, rfl, λ _ _ => ⟨rfl, rfl, rfl⟩, rfl, λ _ _ => rfl⟩
 ·have hc : (lB a).length ≠ 0 := by simpa using hc
  have hb : ∀ i, okL (bestK gtR a.st (lB a) i) := λ i => bestK_ok hok (by omega)
  refine ⟨⟨by omega, by omega⟩, ⟨0, ⟨rfl, rfl, λ _ _ => ⟨rfl, rfl, rfl⟩, rfl, λ _ _ => rfl, rfl, rfl, rfl, rfl⟩, Nat.zero_le _⟩, λ i hi => ⟨λ hlt => ?_, λ hge => ?_⟩⟩
  ·have hlt' : i < (lB a).length := Int.ofNat_lt.1 hlt
   refine ⟨⟨by omega, hlt⟩, ⟨hok _ (gD_mem hlt'), h2, hb i, h2⟩, λ hp => ⟨i + 1, ⟨(wsucc (by omega)).symm, ?_⟩, hlt', by omega⟩, λ hp => ⟨i + 1, ⟨(wsucc (by omega)).symm, ?_⟩, hlt', by omega⟩⟩
   ·rw [bestK_succ hlt', pickM, show gtR _ _ = true from decide_eq_true hp]; exact ⟨rfl, rfl, rfl, rfl⟩
   ·rw [bestK_succ hlt', pickM, show gtR _ _ = false from decide_eq_false hp]; exact ⟨rfl, rfl, rfl, rfl⟩
  ·rw [decide_eq_false hc, show i = (lB a).length by omega, bestK_all]
   exact ⟨rfl, rfl, rfl, rfl, hc⟩
theorem ok_bestM : SpecOk Try.prog n_best ((C_best gtR n_more1).spec (dBkT n_more1)) := okC (C_best gtR n_more1) (A_best gtR n_more1 s_more1) [] [] fn_best (λ _ => by kernel_rfl) (λ _ => gok_cons ok_part (gok_cons ok_lns (gok_cons ok_askL (gok_cons ok_more1 gok_nil)))) (λ (a : BkT) h => by
 have h : bkOk a.w.g a.w.b /\ 0 <= a.st /\ a.st <= 2000 := h
 exact p_bestM a h.1 h.2) (λ _ => noI rfl rfl) _
end Go.Bal
