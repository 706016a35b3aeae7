/- Package rating: lines of a part that bound its flows. -/
import Derived.Test.YtoihhodbkimedaaRatF
set_option linter.unusedVariables false
set_option linter.unusedSimpArgs false
namespace Go.Bal
open Go Go.Sym Go.Proofs
def rowL (l : List Ln) : AObj := .row 4 l.length λ i => eLn (gD l i)
def dLs1 : List AVal -> Heap -> Option (List Ln × List (Nat × Nat) × List Nat)
 | [y], H => match dLns y H with
  | some (l, f) => some (l, [], f)
  | none => none
 | _, _ => none
def C_cloN : Ctr := { α := List Ln, xs := λ l => [.d (eLns l)], L := λ _ => [], val := λ l => .own 0 4 0 l.length, keep := λ l => [(0, .live (rowL l))], pre := λ l => [0 < l.length /\ l.length < 1073741824] }
def A_cloN : Ann := { ann 8 [] with mt := λ id => id == 3 }
def V_cloN (l : List Ln) : Prop := fnVC Try.prog A_cloN F_clone (bodyOf F_clone) (C_cloN.xs l) (heapOf []) (C_cloN.val l) (C_cloN.keep l) [(0, 4032)] []
theorem vc_cloN (l : List Ln) : (V_cloN l) = ((Nat.succ 0).le l.length /\ ((0 = 0 /\ (0 < 0 -> 4 = 4)) /\ (True /\ (0 < l.length -> 4 = 4)) /\ (false = true -> 0 < l.length) /\ 0 + l.length <= 9223372036854775807 /\ (0 + l.length)
 * 32 <= 140737488355328) /\ 0 = 0 /\ l.length = 0 + l.length /\ l.length = 0 + l.length /\ ∀ (i : Nat), i < l.length -> (gD l i).a0 = (gD l (i - 0)).a0 /\ (gD l i).a1 = (gD l (i - 0)).a1 /\ (gD l i).b0 = (gD l (i - 0)).b0 /\ (gD
 l i).b1 = (gD l (i - 0)).b1) := by kernel_rfl
def nilN : DVal := .list 0 0 (λ _ => default) false
def C_cloE : Ctr := { α := One, xs := λ _ => [.d nilN], L := λ _ => [], val := λ _ => .d nilL, keep := λ _ => [] }
def dNil : List AVal -> Heap -> Option (One × List (Nat × Nat) × List Nat)
 | [.d (.list 0 0 _ _)], _ => some (default, [], [])
 | _, _ => none
def A_cloE : Ann := { ann 8 [] with md := λ id => if id = 3 then some (λ k => if k = 0 then 4 else 0) else none }
def V_cloE (_x : One) : Prop := fnVC Try.prog A_cloE F_clone (bodyOf F_clone) (C_cloE.xs _x) (heapOf []) (C_cloE.val _x) [] [] []
theorem vc_cloE (_x : One) : (V_cloE _x) = ((0 = 0 /\ ∀ (i : Nat), i < 0 -> false = false) /\ ((True /\ (0 < 0 -> 4 = 4)) /\ (True /\ (0 < 0 -> 0 = 4)) /\ (false = true -> 0 < 0) /\ 0 <= 9223372036854775807 /\ 0 <= 140737488355328) /\
 0 = 0 /\ 0 = 0) := by kernel_rfl
theorem ok_cloN : SpecOk Try.prog n_clone (C_cloN.spec dLs1) := okC C_cloN (λ _ => A_cloN) [(0, 4032)] [] fn_clone (λ _ => by kernel_rfl) (λ _ => gok_nil) (λ (l : List Ln) h => by
 show V_cloN l; rw [vc_cloN]; simp only [condP, eq_self, implies_true, and_self, true_and, and_true, true_implies, forall_const, decide_eq_true_eq, decide_eq_false_iff_not, Int.toNat_natCast, dSpan_eSpan, dInt_eInt, dGau_e, dPt_e, dLn_e, dRt_e, Nat.zero_add, Int.zero_sub, Nat.le_eq, Nat.succ_eq_add_one, Nat.add_one_le_iff, Bool.not_eq_true', Bool.not_eq_false', rng_length, dSpan_mk, rng_getD]
 obtain ⟨h1, h2⟩ : 0 < l.length /\ l.length < 1073741824 := h
 exact ⟨h1, ⟨λ _ => h1, by omega, by omega⟩, λ _ _ => ⟨rfl, rfl, rfl, rfl⟩⟩) (λ _ => noI rfl rfl) _
theorem ok_cloE : SpecOk Try.prog n_clone (C_cloE.spec dNil) := okC C_cloE (λ _ => A_cloE) [] [] fn_clone (λ _ => by kernel_rfl) (λ _ => gok_nil) (λ (x : One) _ => by
 show V_cloE x; rw [vc_cloE]; simp only [condP, eq_self, implies_true, and_self, true_and, and_true, true_implies, forall_const, decide_eq_true_eq, decide_eq_false_iff_not, Int.toNat_natCast, dSpan_eSpan, dInt_eInt, dGau_e, dPt_e, dLn_e, dRt_e, Nat.zero_add, Int.zero_sub, Nat.le_eq, Nat.succ_eq_add_one, Nat.add_one_le_iff, Bool.not_eq_true', Bool.not_eq_false', rng_length, dSpan_mk, rng_getD]
 exact ⟨by omega, by simp, by omega, by omega⟩) (λ _ => noI rfl rfl) _
structure BkS where
 w : Bk
 k : Int
 st : Int
def dBkS : List AVal -> Heap -> Option (BkS × List (Nat × Nat) × List Nat)
 | [.bptr id _, .d k, .d t], H => match decBk H id with
  | some (w, q) => some (⟨w, dInt k, dInt t⟩, [(100, id), (101, q)], [])
  | none => none
 | _, _ => none
def upB (w : Bk) (k : Int) : Bk := ⟨w.g, w.b, hasUp w.has k, stUp w.has w.st k⟩
def moB (t : Int) : List Ln := [levM ⟨t, 0⟩, levM ⟨t, 200000⟩]
def moK (s : List Gau) (t : Int) (i : Nat) : List Ln := moB t ++ ((endsM s).take i).flatMap λ p => [lnM ⟨t, 0⟩ p, lnM p ⟨t, 200000⟩]
def moM (s : List Gau) (t : Int) : List Ln := moB t ++ (endsM s).flatMap λ p => [lnM ⟨t, 0⟩ p, lnM p ⟨t, 200000⟩]
def okX (s : List Gau) (x : Ln) : Bool := bif riL x then paM s x else false
def lnsM (s : List Gau) (t : Int) : List Ln := bif (bif decide (0 < s.length) then decide ((flM s).length = 0) else false) then [] else flM s ++ (moM s t).filter (okX s)
structure LnK where
 i : Nat
 l : List Ln
 deriving Inhabited
structure LnJ where
 i : Nat
 j : Nat
 l : List Ln
 deriving Inhabited
def sB (a : BkS) : List Gau := insM a.w a.k
def lsH (a : BkS) (c : AVal) : List (Nat × HCell) := bkK a.w ++ [(2048, .live (.box [.d (eGaus (sB a))])), (3144, .live (.box [c]))]
def lsR (a : BkS) (l : List Ln) : List (Nat × HCell) := lsH a (.own 401 4 0 l.length) ++ [(401, .live (rowL l))]
def lsPt (p : Pt) : HCell := .live (.box [.int p.st, .int p.fl])
def lsOn (a : BkS) (l : Nat) : Shape := { α := Nat, dflt := 0, T := λ i => ⟨lnS (sB a) l i, lsH a (.d nilL)⟩, inv := λ i => i <= (endsM (sB a)).length /\ (preO (sB a) i).filter (paM (sB a)) = [], meas := λ i => (endsM (sB a)).length - i }
def lsOo (a : BkS) (l : Nat) : Shape := { α := LnK, dflt := default, T := λ x => ⟨lnS (sB a) l x.i, lsR a x.l⟩, inv := λ x => x.i <= (endsM (sB a)).length /\ x.l = (preO (sB a) x.i).filter (paM (sB a)), meas := λ x => (endsM (sB a)).length - x.i }
def lsIs (a : BkS) (l i j : Nat) : List (Nat × AVal) := [(5, .bptr 205 0), (22, .d (ePts (endsM (sB a)))), (23, .int (endsM (sB a)).length), (24, .int j)] ++ lnS (sB a) l i
def lsIn (a : BkS) (q l : Nat) : Shape := { α := IJ, dflt := default, T := λ x => ⟨lsIs a l x.i x.j, (205, lsPt (gD (endsM (sB a)) x.i)) :: lsH a (.d nilL)⟩, inv := λ x => x.i < (endsM (sB a)).length /\ x.j <= (endsM (sB a)).length /\ (endsM (sB a)).length - x.i = q /\ (preI (sB a) x.i x.j).filter (paM (sB a)) = [], meas := λ x => (endsM (sB a)).length - x.j, first := [(205, 104032)] }
def lsIo (a : BkS) (q l : Nat) (r : List (Nat × Nat)) : Shape := { α := LnJ, dflt := default, T := λ x => ⟨lsIs a l x.i x.j, (205, lsPt (gD (endsM (sB a)) x.i)) :: lsR a x.l⟩, inv := λ x => x.i < (endsM (sB a)).length /\ x.j <= (endsM (sB a)).length /\ (endsM (sB a)).length - x.i = q /\ x.l = (preI (sB a) x.i x.j).filter (paM (sB a)), meas := λ x => (endsM (sB a)).length - x.j, first := (205, 104032) :: r, again := r }
noncomputable def itLns (a : BkS) : IterAnn := { fn := F_through1, code := bodyOf F_through1, live := [0, 1, 2, 7, 8], ann := { base := λ id => 100000 + 1000 * (id + 1), Γ := Sym.look [(n_ends, C_ends.spec dGs1), (n_level, s_level), (n_riL, s_riL)], E := [100, 101, 2048, 3144], n := 41, inner := λ gs id => if id = 2 then some [lsOn a (gs.getD 0 0), lsOo a (gs.getD 0 0)] else if id = 6 then some [lsIn a (gs.getD 0 0) (gs.getD 1 0), lsIo a (gs.getD 0 0) (gs.getD 1 0) [], lsIo a (gs.getD 0 0) (gs.getD 1 0) [(401, 8048)]] else none } }
def ls8s (a : BkS) : List (Nat × AVal) := [(0, .bptr 100 0), (1, .int a.k), (2, .int a.st), (7, .bptr 2048 0), (8, .bptr 3144 0)]
def ls8n (a : BkS) : Shape := { α := One, dflt := default, T := λ _ => ⟨ls8s a, lsH a (.d (eLns (flM (sB a))))⟩, inv := λ _ => True, meas := λ _ => 0 }
def ls8o (a : BkS) : Shape := { α := One, dflt := default, T := λ _ => ⟨ls8s a, lsH a (.d (eLns (flM (sB a))))⟩, inv := λ _ => True, meas := λ _ => 0, ffz := [401] }
def lsU (a : BkS) (z : DVal) : List (Nat × HCell) := bkK (upB a.w a.k) ++ [(2048, .live (.box [.d (eGaus (sB a))])), (3144, .live (.box [.d z]))]
def ls9 (a : BkS) (z : DVal) : Shape := { α := One, dflt := default, T := λ _ => ⟨[(2, .int a.st), (7, .bptr 2048 0), (8, .bptr 3144 0)], lsU a z⟩, inv := λ _ => True, meas := λ _ => 0 }
def ls14 (a : BkS) (z : DVal) : Shape := { α := Nat, dflt := 0, T := λ i => ⟨[(7, .bptr 2048 0), (8, .bptr 3144 0), (11, .bptr 12064 0), (12, .bptr 12080 0), (13, .own 402 4 0 (moK (sB a) a.st i).length), (67, .d (ePts (endsM (sB a)))), (68, .int (endsM (sB a)).length), (69, .int i)], lsU a z ++ [(12064, .live (.box [.int a.st, .int 0])), (12080, .live (.box [.int a.st, .int 200000])), (402, .live (rowL (moK (sB a) a.st i)))]⟩, inv := λ i => i <= (endsM (sB a)).length, meas := λ i => (endsM (sB a)).length - i, first := [(402, 13064)], again := [(402, 17128)] }
def ls20s (a : BkS) (v : AVal) (i : Nat) : List (Nat × AVal) := [(7, .bptr 2048 0), (16, v), (85, .own 402 4 0 (moM (sB a) a.st).length), (86, .int (moM (sB a) a.st).length), (87, .int i)]
def ls20h (a : BkS) : List (Nat × HCell) := bkK (upB a.w a.k) ++ [(2048, .live (.box [.d (eGaus (sB a))])), (402, .live (rowL (moM (sB a) a.st)))]
def ls20n (a : BkS) : Shape := { α := Nat, dflt := 0, T := λ i => ⟨ls20s a (.d nilL) i, ls20h a⟩, inv := λ i => i <= (moM (sB a) a.st).length /\ ((moM (sB a) a.st).take i).filter (okX (sB a)) = [], meas := λ i => (moM (sB a) a.st).length - i }
def ls20o (a : BkS) : Shape := { α := LnK, dflt := default, T := λ x => ⟨ls20s a (.own 403 4 0 x.l.length) x.i, ls20h a ++ [(403, .live (rowL x.l))]⟩, inv := λ x => x.i <= (moM (sB a) a.st).length /\ x.l = flM (sB a) ++ ((moM (sB a) a.st).take x.i).filter (okX (sB a)), meas := λ x => (moM (sB a) a.st).length - x.i, first := [(403, 19016)] }
def ls24n (a : BkS) (m : Nat) : Shape := { α := Nat, dflt := 0, T := λ i => ⟨ls20s a (.d nilL) i, ls20h a⟩, inv := λ i => i < (moM (sB a) a.st).length /\ (moM (sB a) a.st).length - i = m /\ ((moM (sB a) a.st).take (i + 1)).filter (okX (sB a)) = [], meas := λ _ => 0 }
def ls24o (a : BkS) (m : Nat) (f : List (Nat × Nat)) : Shape := { α := LnK, dflt := default, T := λ x => ⟨ls20s a (.own 403 4 0 x.l.length) x.i, ls20h a ++ [(403, .live (rowL x.l))]⟩, inv := λ x => x.i < (moM (sB a) a.st).length /\ (moM (sB a) a.st).length - x.i = m /\ x.l = flM (sB a) ++ ((moM (sB a) a.st).take (x.i + 1)).filter (okX (sB a)), meas := λ _ => 0, first := f }
def C_lns : Ctr := { ro := [100], α := BkS, xs := λ a => [.bptr 100 0, .int a.k, .int a.st], L := λ a => bkL a.w, val := λ a => .d (eLns (lnsM (sB a) a.st)), keep := λ a => bkK (upB a.w a.k), pre := λ a => [bkOk a.w.g a.w.b /\ 0 <= a.st /\ a.st <= 2000] }
def G_lns (c : Sym.Spec) : List (FuncId × Sym.Spec) := [(n_inside, C_inside.spec dBkI), (n_through, C_through.spec dGsK), (n_passing, C_passing.spec dGsL), (n_level, s_level), (n_ends, C_ends.spec dGs1), (n_riL, s_riL), (n_clone, c)]
noncomputable def A_lnsN (a : BkS) : Ann := { ann 104 (G_lns (C_cloN.spec dLs1)) with E := [100, 101], mt := λ id => id == 7 || id == 16 || id == 23, md := λ id => if id = 2 then some (λ k => if k = 5 then 3 else 0) else none, iter := λ g => if g = n_through1 then some (itLns a) else none, loops := λ id => if id = 14 then some [ls14 a (eLns (flM (sB a)))] else if id = 20 then some [ls20o a] else none, cut := λ id => if id = 8 then some [ls8n a, ls8o a] else if id = 9 then some [ls9 a (eLns (flM (sB a)))] else none, cutIn := λ gs id => if id = 24 then some [ls24o a (gs.getD 0 0) [(403, 24048)], ls24o a (gs.getD 0 0) []] else none }
noncomputable def A_lnsE (a : BkS) : Ann := { ann 104 (G_lns (C_cloE.spec dNil)) with E := [100, 101], mt := λ id => id == 7 || id == 16 || id == 23, md := λ id => if id = 2 then some (λ k => if k = 5 then 3 else 0) else none, iter := λ g => if g = n_through1 then some (itLns a) else none, loops := λ id => if id = 14 then some [ls14 a nilN] else if id = 20 then some [ls20n a, ls20o a] else none, cut := λ id => if id = 8 then some [ls8n a, ls8o a] else if id = 9 then some [ls9 a nilN] else none, cutIn := λ gs id => if id = 24 then some [ls24n a (gs.getD 0 0), ls24o a (gs.getD 0 0) [(403, 24048)], ls24o a (gs.getD 0 0) []] else none }
def V_lnsN (a : BkS) : Prop := fnVC Try.prog (A_lnsN a) F_lines (bodyOf F_lines) (C_lns.xs a) (heapOf (C_lns.L a)) (C_lns.val a) (C_lns.keep a) [] [403]
abbrev z_lnsN_0 (a : BkS) : List Gau := rng a.w.g.length λ (i : Nat) => gD a.w.g i
abbrev z_lnsN_1 (a : BkS) : Nat := (z_lnsN_0 a).length
abbrev z_lnsN_2 (a : BkS) (i : Nat) : Gau := gD (z_lnsN_0 a) i
abbrev z_lnsN_3 (a : BkS) (i : Nat) : Int := (z_lnsN_2 a i).st
abbrev z_lnsN_4 (a : BkS) (i : Nat) : Int := (z_lnsN_2 a i).lo
abbrev z_lnsN_5 (a : BkS) (i : Nat) : Int := (z_lnsN_2 a i).hi
abbrev z_lnsN_6 (a : BkS) : List Int := rng a.w.b.length λ (i : Nat) => gD a.w.b i
abbrev z_lnsN_7 (a : BkS) : Nat := (z_lnsN_6 a).length
abbrev z_lnsN_8 (a : BkS) (i : Nat) : Int := gD (z_lnsN_6 a) i
abbrev z_lnsN_9 : Value := Value.slice none (0 : Nat) (0 : Nat)
abbrev z_lnsN_10 : Prop := z_lnsN_9 = z_lnsN_9
abbrev z_lnsN_11 (a : BkS) : Prop := ∀ (n : Int), a.w.has n = a.w.has n
abbrev z_lnsN_12 (a : BkS) : Prop := ∀ (n : Int), a.w.st n = a.w.st n
abbrev z_lnsN_13 (a : BkS) : Bk := Bk.mk (z_lnsN_0 a) (z_lnsN_6 a) a.w.has a.w.st
abbrev z_lnsN_14 (a : BkS) (n : Int) : List Ln := fdM (z_lnsN_13 a) n
abbrev z_lnsN_15 (a : BkS) (n : Int) : Nat := (z_lnsN_14 a n).length
abbrev z_lnsN_16 (a : BkS) (n : Int) (i : Nat) : Ln := gD (z_lnsN_14 a n) i
abbrev z_lnsN_17 (a : BkS) (n : Int) (i : Nat) : Int := (z_lnsN_16 a n i).a0
abbrev z_lnsN_18 (a : BkS) (n : Int) (i : Nat) : Int := (z_lnsN_16 a n i).a1
abbrev z_lnsN_19 (a : BkS) (n : Int) (i : Nat) : Int := (z_lnsN_16 a n i).b0
abbrev z_lnsN_20 (a : BkS) (n : Int) (i : Nat) : Int := (z_lnsN_16 a n i).b1
abbrev z_lnsN_21 (i : Nat) (a : BkS) (n : Int) : Prop := i < (fdM a.w n).length
abbrev z_lnsN_22 (x : Gau) : Prop := (0 : Int) <= x.st /\ x.st <= (2000 : Int) /\ (0 : Int) <= x.lo /\ x.lo <= x.hi /\ x.hi <= (200000 : Int)
abbrev z_lnsN_23 (a : BkS) : Prop := (upB a.w a.k).g.length = a.w.g.length
abbrev z_lnsN_24 (i : Nat) (a : BkS) : Prop := i < (upB a.w a.k).g.length
abbrev z_lnsN_25 (a : BkS) (i : Nat) : Gau := gD (upB a.w a.k).g i
abbrev z_lnsN_26 (a : BkS) (i : Nat) : Int := (z_lnsN_25 a i).st
abbrev z_lnsN_27 (a : BkS) (i : Nat) : Int := (z_lnsN_25 a i).lo
abbrev z_lnsN_28 (a : BkS) (i : Nat) : Int := (z_lnsN_25 a i).hi
abbrev z_lnsN_29 (a : BkS) : Prop := ∀ (i : Nat), z_lnsN_24 i a -> z_lnsN_26 a i = (gD a.w.g i).st /\ z_lnsN_27 a i = (gD a.w.g i).lo /\ z_lnsN_28 a i = (gD a.w.g i).hi
abbrev z_lnsN_30 (a : BkS) : Prop := (upB a.w a.k).b.length = a.w.b.length
abbrev z_lnsN_31 (i : Nat) (a : BkS) : Prop := i < (upB a.w a.k).b.length
abbrev z_lnsN_32 (a : BkS) (i : Nat) : Int := gD (upB a.w a.k).b i
abbrev z_lnsN_33 (a : BkS) : Prop := ∀ (i : Nat), z_lnsN_31 i a -> z_lnsN_32 a i = gD a.w.b i
abbrev z_lnsN_34 (i : Nat) (a : BkS) (n : Int) : Prop := i < (fdM (upB a.w a.k) n).length
abbrev z_lnsN_35 (a : BkS) (n : Int) (i : Nat) : Ln := gD (fdM (upB a.w a.k) n) i
abbrev z_lnsN_36 (a : BkS) (n : Int) (i : Nat) : Int := (z_lnsN_35 a n i).a0
abbrev z_lnsN_37 (a : BkS) (n : Int) (i : Nat) : Int := (z_lnsN_35 a n i).a1
abbrev z_lnsN_38 (a : BkS) (n : Int) (i : Nat) : Int := (z_lnsN_35 a n i).b0
abbrev z_lnsN_39 (a : BkS) (n : Int) (i : Nat) : Int := (z_lnsN_35 a n i).b1
abbrev z_lnsN_40 (a : BkS) : List Gau := insM (z_lnsN_13 a) a.k
abbrev z_lnsN_41 (a : BkS) : Nat := (z_lnsN_40 a).length
abbrev z_lnsN_42 (a : BkS) : Prop := (sB a).length = z_lnsN_41 a
abbrev z_lnsN_43 (a : BkS) (i : Nat) : Gau := gD (z_lnsN_40 a) i
abbrev z_lnsN_44 (a : BkS) (i : Nat) : Int := (z_lnsN_43 a i).st
abbrev z_lnsN_45 (a : BkS) (i : Nat) : Int := (z_lnsN_43 a i).lo
abbrev z_lnsN_46 (a : BkS) (i : Nat) : Int := (z_lnsN_43 a i).hi
abbrev z_lnsN_47 (a : BkS) : Prop := ∀ (i : Nat), i < (sB a).length -> (gD (sB a) i).st = z_lnsN_44 a i /\ (gD (sB a) i).lo = z_lnsN_45 a i /\ (gD (sB a) i).hi = z_lnsN_46 a i
abbrev z_lnsN_48 (a : BkS) : Prop := (lnsM (sB a) a.st).length = (0 : Nat)
abbrev z_lnsN_49 (a : BkS) : Prop := (upB a.w a.k).g.length = (upB a.w a.k).g.length
abbrev z_lnsN_50 (a : BkS) : Prop := ∀ (i : Nat), z_lnsN_24 i a -> z_lnsN_26 a i = z_lnsN_26 a i /\ z_lnsN_27 a i = z_lnsN_27 a i /\ z_lnsN_28 a i = z_lnsN_28 a i
abbrev z_lnsN_51 (a : BkS) : Prop := (upB a.w a.k).b.length = (upB a.w a.k).b.length
abbrev z_lnsN_52 (a : BkS) : Prop := ∀ (i : Nat), z_lnsN_31 i a -> z_lnsN_32 a i = z_lnsN_32 a i
abbrev z_lnsN_53 (a : BkS) : Prop := ∀ (n : Int), (upB a.w a.k).has n = (upB a.w a.k).has n
abbrev z_lnsN_54 (a : BkS) : Prop := ∀ (n : Int), (upB a.w a.k).st n = (upB a.w a.k).st n
abbrev z_lnsN_55 (a : BkS) : Prop := ∀ (n : Int), (fdM (upB a.w a.k) n).length = (fdM (upB a.w a.k) n).length /\ ∀ (i : Nat), z_lnsN_34 i a n -> z_lnsN_36 a n i = z_lnsN_36 a n i /\ z_lnsN_37 a n i = z_lnsN_37 a n i /\
 z_lnsN_38 a n i = z_lnsN_38 a n i /\ z_lnsN_39 a n i = z_lnsN_39 a n i
abbrev z_lnsN_56 (a : BkS) : Prop := z_lnsN_49 a /\ z_lnsN_50 a /\ z_lnsN_51 a /\ z_lnsN_52 a /\ z_lnsN_10 /\ z_lnsN_53 a /\ z_lnsN_54 a /\ z_lnsN_55 a
abbrev z_lnsN_57 (a : BkS) : Prop := (0 : Int) <= a.st /\ a.st <= (2000 : Int)
abbrev z_lnsN_58 (a : BkS) : List Gau := rng (sB a).length λ (i : Nat) => gD (sB a) i
abbrev z_lnsN_59 (a : BkS) : Nat := (z_lnsN_58 a).length
abbrev z_lnsN_60 (a : BkS) : Prop := z_lnsN_59 a = (sB a).length
abbrev z_lnsN_61 (a : BkS) (i : Nat) : Gau := gD (z_lnsN_58 a) i
abbrev z_lnsN_62 (a : BkS) : Prop := ∀ (i : Nat), i < z_lnsN_59 a -> (z_lnsN_61 a i).st = (gD (sB a) i).st /\ (z_lnsN_61 a i).lo = (gD (sB a) i).lo /\ (z_lnsN_61 a i).hi = (gD (sB a) i).hi
abbrev z_lnsN_63 : Prop := (0 : Nat) = (0 : Nat)
abbrev z_lnsN_64 (a : BkS) (a1 : Nat) : Prop := (moK (sB a) a.st a1).length = (2 : Nat)
abbrev z_lnsN_65 (a : BkS) : List Pt := endsM (z_lnsN_58 a)
abbrev z_lnsN_66 (a : BkS) : Nat := (z_lnsN_65 a).length
abbrev z_lnsN_67 (a : BkS) (i : Nat) : Pt := gD (z_lnsN_65 a) i
abbrev z_lnsN_68 (a : Nat) : Prop := (↑a : Int) = (0 : Int)
abbrev z_lnsN_69 (a : BkS) : Prop := (sB a).length = (sB a).length
abbrev z_lnsN_70 (a : BkS) : Prop := ∀ (i : Nat), i < (sB a).length -> (gD (sB a) i).st = (gD (sB a) i).st /\ (gD (sB a) i).lo = (gD (sB a) i).lo /\ (gD (sB a) i).hi = (gD (sB a) i).hi
abbrev z_lnsN_71 (a : BkS) : Prop := (flM (sB a)).length = (flM (sB a)).length
abbrev z_lnsN_72 (a : BkS) : Prop := ∀ (i : Nat), i < (flM (sB a)).length -> (gD (flM (sB a)) i).a0 = (gD (flM (sB a)) i).a0 /\ (gD (flM (sB a)) i).a1 = (gD (flM (sB a)) i).a1 /\ (gD (flM (sB a)) i).b0 = (gD (flM (sB a))
 i).b0 /\ (gD (flM (sB a)) i).b1 = (gD (flM (sB a)) i).b1
abbrev z_lnsN_73 : Prop := Int.ofNat (0 : Nat) = Int.ofNat (0 : Nat)
abbrev z_lnsN_74 : Prop := Int.ofNat (200000 : Nat) = Int.ofNat (200000 : Nat)
abbrev z_lnsN_75 (i : Nat) (a : BkS) (a1 : Nat) : Prop := i < (moK (sB a) a.st a1).length
abbrev z_lnsN_76 (a : BkS) (a1 : Nat) (i : Nat) : Ln := gD (moK (sB a) a.st a1) i
abbrev z_lnsN_77 (a : BkS) (a1 : Nat) (i : Nat) : Int := (z_lnsN_76 a a1 i).a0
abbrev z_lnsN_78 (i : Nat) : Bool := decide (i = (0 : Nat))
abbrev z_lnsN_79 (a : BkS) (a1 : Nat) (i : Nat) : Int := (z_lnsN_76 a a1 i).a1
abbrev z_lnsN_80 (a : BkS) (a1 : Nat) (i : Nat) : Int := (z_lnsN_76 a a1 i).b0
abbrev z_lnsN_81 (a : BkS) (a1 : Nat) (i : Nat) : Int := (z_lnsN_76 a a1 i).b1
abbrev z_lnsN_82 (a : Nat) (a1 : BkS) : Prop := (↑a : Int) < (↑(endsM (sB a1)).length : Int)
abbrev z_lnsN_83 (a : Nat) (a1 : BkS) : Bool := decide (z_lnsN_82 a a1)
abbrev z_lnsN_84 (a : Nat) (a1 : BkS) : Prop := (0 : Int) <= (↑a : Int) /\ z_lnsN_82 a a1
abbrev z_lnsN_85 : Prop := (4 : Nat) = (4 : Nat)
abbrev z_lnsN_86 : Prop := (0 : Nat) < (2 : Nat)
abbrev z_lnsN_87 (a : BkS) (a1 : Nat) : Nat := (moK (sB a) a.st a1).length + (2 : Nat)
abbrev z_lnsN_88 (a : BkS) (a1 : Nat) (a2 : Nat) : Prop := (moK (sB a) a.st a1).length = z_lnsN_87 a a2
abbrev z_lnsN_89 (a : BkS) : Prop := (endsM (sB a)).length = (endsM (sB a)).length
abbrev z_lnsN_90 (a : BkS) : Prop := ∀ (i : Nat), i < (endsM (sB a)).length -> (gD (endsM (sB a)) i).st = (gD (endsM (sB a)) i).st /\ (gD (endsM (sB a)) i).fl = (gD (endsM (sB a)) i).fl
abbrev z_lnsN_91 (a : BkS) : Prop := (↑(endsM (sB a)).length : Int) = (↑(endsM (sB a)).length : Int)
abbrev z_lnsN_92 (i : Nat) (a : BkS) (a1 : Nat) : Bool := decide (z_lnsN_75 i a a1)
abbrev z_lnsN_93 (i : Nat) (a : BkS) (a1 : Nat) : Bool := decide ((0 : Nat) + (i - (moK (sB a) a.st a1).length) = (0 : Nat))
abbrev z_lnsN_94 (a : BkS) (a1 : Nat) : Nat := (endsM (sB a)).length - a1
abbrev z_lnsN_95 (a : BkS) (a1 : Nat) (a2 : Nat) : Prop := z_lnsN_94 a a1 < z_lnsN_94 a a2
abbrev z_lnsN_96 (a : BkS) : List Ln := rng (flM (sB a)).length λ (i : Nat) => gD (flM (sB a)) i
abbrev z_lnsN_97 (a : BkS) : Nat := (z_lnsN_96 a).length
abbrev z_lnsN_98 (a : BkS) (i : Nat) : Ln := gD (z_lnsN_96 a) i
abbrev z_lnsN_99 (a : BkS) (i : Nat) : Int := (z_lnsN_98 a i).a0
abbrev z_lnsN_100 (a : BkS) (i : Nat) : Int := (z_lnsN_98 a i).a1
abbrev z_lnsN_101 (a : BkS) (i : Nat) : Int := (z_lnsN_98 a i).b0
abbrev z_lnsN_102 (a : BkS) (i : Nat) : Int := (z_lnsN_98 a i).b1
abbrev z_lnsN_103 (a : LnK) (a1 : BkS) : Prop := a.l.length = z_lnsN_97 a1
abbrev z_lnsN_104 (a : BkS) (a1 : Nat) : Prop := (moM (sB a) a.st).length = (moK (sB a) a.st a1).length
abbrev z_lnsN_105 (i : Nat) (a : BkS) : Prop := i < (moM (sB a) a.st).length
abbrev z_lnsN_106 (a : BkS) (i : Nat) : Int := (gD (moM (sB a) a.st) i).a0
abbrev z_lnsN_107 (a : BkS) (i : Nat) : Int := (gD (moM (sB a) a.st) i).a1
abbrev z_lnsN_108 (a : BkS) (i : Nat) : Int := (gD (moM (sB a) a.st) i).b0
abbrev z_lnsN_109 (a : BkS) (i : Nat) : Int := (gD (moM (sB a) a.st) i).b1
abbrev z_lnsN_110 (a : LnK) (a1 : BkS) : Prop := a.i <= (moM (sB a1) a1.st).length /\ a.l = flM (sB a1) ++ List.filter (okX (sB a1)) (List.take a.i (moM (sB a1) a1.st))
abbrev z_lnsN_111 (a : LnK) (a1 : BkS) : Prop := (↑a.i : Int) < (↑(moM (sB a1) a1.st).length : Int)
abbrev z_lnsN_112 (a : LnK) : Prop := (0 : Int) <= (↑a.i : Int)
abbrev z_lnsN_113 (a : LnK) : Nat := (0 : Nat) + a.i
abbrev z_lnsN_114 (a : BkS) (a1 : LnK) : Ln := gD (moM (sB a) a.st) (z_lnsN_113 a1)
abbrev z_lnsN_115 (a : BkS) (a1 : LnK) : Bool := riL (z_lnsN_114 a a1)
abbrev z_lnsN_116 (a : BkS) (a1 : LnK) : Int := (z_lnsN_114 a a1).a0
abbrev z_lnsN_117 (a : BkS) (a1 : LnK) : Int := (z_lnsN_114 a a1).a1
abbrev z_lnsN_118 (a : BkS) (a1 : LnK) : Int := (z_lnsN_114 a a1).b0
abbrev z_lnsN_119 (a : BkS) (a1 : LnK) : Int := (z_lnsN_114 a a1).b1
abbrev z_lnsN_120 (a : BkS) : Prop := z_lnsN_59 a < (4611686018427387904 : Nat)
abbrev z_lnsN_121 (g : Gau) (a : BkS) : Prop := List.Mem g (z_lnsN_58 a)
abbrev z_lnsN_122 : Prop := (0 : Nat) < (1 : Nat)
abbrev z_lnsN_123 : Prop := (1 : Nat) <= (1 : Nat) /\ (z_lnsN_122 -> z_lnsN_85)
abbrev z_lnsN_124 : Prop := false = true -> z_lnsN_122
abbrev z_lnsN_125 (a : LnK) : Nat := a.l.length + (1 : Nat)
abbrev z_lnsN_126 (a : LnK) : Prop := (a.l.length = a.l.length /\ ((0 : Nat) < a.l.length -> z_lnsN_85)) /\ z_lnsN_123 /\ z_lnsN_124 /\ z_lnsN_125 a <= (9223372036854775807 : Nat) /\ z_lnsN_125 a * (32 : Nat) <= (140737488355328
 : Nat)
abbrev z_lnsN_127 (a : LnK) (a1 : LnK) : Prop := a.l.length = z_lnsN_125 a1
abbrev z_lnsN_128 (a : BkS) : Prop := (moM (sB a) a.st).length = (moM (sB a) a.st).length
abbrev z_lnsN_129 (a : BkS) : Prop := (↑(moM (sB a) a.st).length : Int) = (↑(moM (sB a) a.st).length : Int)
abbrev z_lnsN_130 (a : LnK) (a1 : LnK) : Prop := (↑a.i : Int) = (↑a1.i : Int)
abbrev z_lnsN_131 (a : BkS) : Prop := ∀ (i : Nat), z_lnsN_105 i a -> z_lnsN_106 a i = z_lnsN_106 a i /\ z_lnsN_107 a i = z_lnsN_107 a i /\ z_lnsN_108 a i = z_lnsN_108 a i /\ z_lnsN_109 a i = z_lnsN_109 a i
abbrev z_lnsN_132 (i : Nat) (a : LnK) : Bool := decide (i < a.l.length)
abbrev z_lnsN_133 (a : BkS) (a1 : LnK) : Nat := (moM (sB a) a.st).length - a1.i
abbrev z_lnsN_134 (a : LnK) (a1 : BkS) (a2 : LnK) : Prop := a.i < (moM (sB a1) a1.st).length /\ z_lnsN_133 a1 a = z_lnsN_133 a1 a2 /\ a.l = flM (sB a1) ++ List.filter (okX (sB a1)) (List.take (a.i + (1 : Nat)) (moM (sB a1)
 a1.st))
abbrev z_lnsN_135 (a : LnK) (a1 : LnK) : Prop := a.l.length = a1.l.length
abbrev z_lnsN_136 (a : BkS) (a1 : LnK) (a2 : LnK) : Prop := z_lnsN_49 a /\ z_lnsN_50 a /\ z_lnsN_51 a /\ z_lnsN_52 a /\ z_lnsN_10 /\ z_lnsN_53 a /\ z_lnsN_54 a /\ z_lnsN_55 a /\ z_lnsN_69 a /\ z_lnsN_70 a /\ z_lnsN_128 a /\
 z_lnsN_131 a /\ z_lnsN_135 a1 a2 /\ ∀ (i : Nat), i < a1.l.length -> (gD a1.l i).a0 = (gD a2.l i).a0 /\ (gD a1.l i).a1 = (gD a2.l i).a1 /\ (gD a1.l i).b0 = (gD a2.l i).b0 /\ (gD a1.l i).b1 = (gD a2.l i).b1
abbrev z_lnsN_137 (a : BkS) (a1 : LnK) : Prop := ∀ (a_1 : LnK), z_lnsN_134 a_1 a a1 -> ∃ (a_3 : LnK), (z_lnsN_63 /\ z_lnsN_135 a_3 a_1 /\ z_lnsN_63 /\ z_lnsN_128 a /\ z_lnsN_129 a /\ (↑a_3.i : Int) = IntKind.i64.wrap ((↑a_1.i
 : Int) + (1 : Int)) /\ z_lnsN_136 a a_3 a_1) /\ z_lnsN_110 a_3 a /\ z_lnsN_133 a a_3 < z_lnsN_133 a a1
abbrev z_lnsN_138 (a : LnK) : Prop := (0 : Nat) + a.l.length <= a.l.length
abbrev z_lnsN_139 (a : LnK) (j : Nat) : Ln := gD a.l ((0 : Nat) + j)
abbrev z_lnsN_140 (a : LnK) (j : Nat) : Int := (z_lnsN_139 a j).a0
abbrev z_lnsN_141 (a : LnK) (j : Nat) : Int := (z_lnsN_139 a j).a1
abbrev z_lnsN_142 (a : LnK) (j : Nat) : Int := (z_lnsN_139 a j).b0
abbrev z_lnsN_143 (a : LnK) (j : Nat) : Int := (z_lnsN_139 a j).b1
abbrev z_lnsN_144 (a : BkS) : Prop := ∀ (a_1 : One), True -> bif bif decide ((↑(sB a).length : Int) > (0 : Int)) then (↑(flM (sB a)).length : Int) == (0 : Int) else false then z_lnsN_48 a /\ z_lnsN_48 a /\ z_lnsN_56 a else
 (z_lnsN_57 a /\ z_lnsN_57 a) /\ (z_lnsN_60 a /\ z_lnsN_62 a /\ z_lnsN_59 a < (1073741824 : Nat) /\ True) /\ (∃ (a_3 : Nat), (z_lnsN_63 /\ z_lnsN_64 a a_3 /\ (endsM (sB a)).length = z_lnsN_66 a /\ (∀ (i : Nat), i < (endsM (sB
 a)).length -> (gD (endsM (sB a)) i).st = (z_lnsN_67 a i).st /\ (gD (endsM (sB a)) i).fl = (z_lnsN_67 a i).fl) /\ (↑(endsM (sB a)).length : Int) = (↑(z_lnsN_66 a) : Int) /\ z_lnsN_68 a_3 /\ z_lnsN_49 a /\ z_lnsN_50 a /\
 z_lnsN_51 a /\ z_lnsN_52 a /\ z_lnsN_10 /\ z_lnsN_53 a /\ z_lnsN_54 a /\ z_lnsN_55 a /\ z_lnsN_69 a /\ z_lnsN_70 a /\ z_lnsN_71 a /\ z_lnsN_72 a /\ a.st = a.st /\ z_lnsN_73 /\ a.st = a.st /\ z_lnsN_74 /\ z_lnsN_64 a a_3 /\ ∀ (i : Nat),
 z_lnsN_75 i a a_3 -> (z_lnsN_77 a a_3 i = bif z_lnsN_78 i then (levM (Pt.mk a.st (0 : Int))).a0 else (levM (Pt.mk a.st (200000 : Int))).a0) /\ (z_lnsN_79 a a_3 i = bif z_lnsN_78 i then (levM (Pt.mk a.st (0 : Int))).a1 else
 (levM (Pt.mk a.st (200000 : Int))).a1) /\ (z_lnsN_80 a a_3 i = bif z_lnsN_78 i then (levM (Pt.mk a.st (0 : Int))).b0 else (levM (Pt.mk a.st (200000 : Int))).b0) /\ z_lnsN_81 a a_3 i = bif z_lnsN_78 i then (levM (Pt.mk a.st
 (0 : Int))).b1 else (levM (Pt.mk a.st (200000 : Int))).b1) /\ a_3.le (endsM (sB a)).length) /\ ∀ (a_3 : Nat), a_3.le (endsM (sB a)).length -> bif z_lnsN_83 a_3 a then z_lnsN_84 a_3 a /\ (((moK (sB a) a.st a_3).length = (moK
 (sB a) a.st a_3).length /\ ((0 : Nat) < (moK (sB a) a.st a_3).length -> z_lnsN_85)) /\ ((2 : Nat) <= (2 : Nat) /\ (z_lnsN_86 -> z_lnsN_85)) /\ (false = true -> z_lnsN_86) /\ z_lnsN_87 a a_3 <= (9223372036854775807 : Nat) /\
 z_lnsN_87 a a_3 * (32 : Nat) <= (140737488355328 : Nat)) /\ ∃ (a_5 : Nat), (z_lnsN_63 /\ z_lnsN_88 a a_5 a_3 /\ z_lnsN_89 a /\ z_lnsN_90 a /\ z_lnsN_91 a /\ (↑a_5 : Int) = IntKind.i64.wrap ((↑a_3 : Int) + (1 : Int)) /\ z_lnsN_49
 a /\ z_lnsN_50 a /\ z_lnsN_51 a /\ z_lnsN_52 a /\ z_lnsN_10 /\ z_lnsN_53 a /\ z_lnsN_54 a /\ z_lnsN_55 a /\ z_lnsN_69 a /\ z_lnsN_70 a /\ z_lnsN_71 a /\ z_lnsN_72 a /\ a.st = a.st /\ z_lnsN_73 /\ a.st = a.st /\ z_lnsN_74 /\ z_lnsN_88 a
 a_5 a_3 /\ ∀ (i : Nat), z_lnsN_75 i a a_5 -> (z_lnsN_77 a a_5 i = bif z_lnsN_92 i a a_3 then z_lnsN_77 a a_3 i else bif z_lnsN_93 i a a_3 then a.st else (gD (endsM (sB a)) a_3).st) /\ (z_lnsN_79 a a_5 i = bif z_lnsN_92 i a
 a_3 then z_lnsN_79 a a_3 i else bif z_lnsN_93 i a a_3 then (0 : Int) else (gD (endsM (sB a)) a_3).fl) /\ (z_lnsN_80 a a_5 i = bif z_lnsN_92 i a a_3 then z_lnsN_80 a a_3 i else bif z_lnsN_93 i a a_3 then (gD (endsM (sB a))
 a_3).st else a.st) /\ z_lnsN_81 a a_5 i = bif z_lnsN_92 i a a_3 then z_lnsN_81 a a_3 i else bif z_lnsN_93 i a a_3 then (gD (endsM (sB a)) a_3).fl else (200000 : Int)) /\ a_5.le (endsM (sB a)).length /\ z_lnsN_95 a a_5 a_3
 else (z_lnsN_97 a = (flM (sB a)).length /\ (∀ (i : Nat), i < z_lnsN_97 a -> z_lnsN_99 a i = (gD (flM (sB a)) i).a0 /\ z_lnsN_100 a i = (gD (flM (sB a)) i).a1 /\ z_lnsN_101 a i = (gD (flM (sB a)) i).b0 /\ z_lnsN_102 a i = (gD
 (flM (sB a)) i).b1) /\ (0 : Nat) < z_lnsN_97 a /\ z_lnsN_97 a < (1073741824 : Nat)) /\ (∃ (a_5 : LnK), (z_lnsN_63 /\ z_lnsN_103 a_5 a /\ z_lnsN_63 /\ z_lnsN_104 a a_3 /\ (↑(moM (sB a) a.st).length : Int) = (↑(moK (sB a) a.st
 a_3).length : Int) /\ (↑a_5.i : Int) = (0 : Int) /\ z_lnsN_49 a /\ z_lnsN_50 a /\ z_lnsN_51 a /\ z_lnsN_52 a /\ z_lnsN_10 /\ z_lnsN_53 a /\ z_lnsN_54 a /\ z_lnsN_55 a /\ z_lnsN_69 a /\ z_lnsN_70 a /\ z_lnsN_104 a a_3 /\ (∀ (i : Nat),
 z_lnsN_105 i a -> z_lnsN_106 a i = z_lnsN_77 a a_3 i /\ z_lnsN_107 a i = z_lnsN_79 a a_3 i /\ z_lnsN_108 a i = z_lnsN_80 a a_3 i /\ z_lnsN_109 a i = z_lnsN_81 a a_3 i) /\ z_lnsN_103 a_5 a /\ ∀ (i : Nat), i < a_5.l.length -> (gD
 a_5.l i).a0 = z_lnsN_99 a i /\ (gD a_5.l i).a1 = z_lnsN_100 a i /\ (gD a_5.l i).b0 = z_lnsN_101 a i /\ (gD a_5.l i).b1 = z_lnsN_102 a i) /\ z_lnsN_110 a_5 a) /\ ∀ (a_5 : LnK), z_lnsN_110 a_5 a -> bif decide (z_lnsN_111 a_5 a)
 then (((z_lnsN_112 a_5 /\ z_lnsN_111 a_5 a) /\ (z_lnsN_113 a_5).succ.le (moM (sB a) a.st).length) /\ (z_lnsN_115 a a_5 = true -> z_lnsN_60 a /\ z_lnsN_62 a /\ z_lnsN_116 a a_5 = z_lnsN_116 a a_5 /\ z_lnsN_117 a a_5 = z_lnsN_117
 a a_5 /\ z_lnsN_118 a a_5 = z_lnsN_118 a a_5 /\ z_lnsN_119 a a_5 = z_lnsN_119 a a_5 /\ z_lnsN_120 a /\ ∀ (g : Gau), z_lnsN_121 g a -> ((0 : Int) <= z_lnsN_116 a a_5 /\ z_lnsN_116 a a_5 < z_lnsN_118 a a_5 /\ z_lnsN_118 a a_5 <=
 (2000 : Int) /\ (0 : Int) <= z_lnsN_117 a a_5 /\ z_lnsN_117 a a_5 <= z_lnsN_119 a a_5 /\ z_lnsN_119 a a_5 <= (200000 : Int)) /\ z_lnsN_22 g) /\ bif bif z_lnsN_115 a a_5 then (z_lnsN_58 a).all λ (g : Gau) => passM (z_lnsN_114 a
 a_5) g else false then z_lnsN_126 a_5 /\ ∃ (a_7 : LnK), (z_lnsN_63 /\ z_lnsN_127 a_7 a_5 /\ z_lnsN_63 /\ z_lnsN_128 a /\ z_lnsN_129 a /\ z_lnsN_130 a_7 a_5 /\ z_lnsN_49 a /\ z_lnsN_50 a /\ z_lnsN_51 a /\ z_lnsN_52 a /\ z_lnsN_10 /\
 z_lnsN_53 a /\ z_lnsN_54 a /\ z_lnsN_55 a /\ z_lnsN_69 a /\ z_lnsN_70 a /\ z_lnsN_128 a /\ z_lnsN_131 a /\ z_lnsN_127 a_7 a_5 /\ ∀ (i : Nat), i < a_7.l.length -> ((gD a_7.l i).a0 = bif z_lnsN_132 i a_5 then (gD a_5.l i).a0 else
 z_lnsN_116 a a_5) /\ ((gD a_7.l i).a1 = bif z_lnsN_132 i a_5 then (gD a_5.l i).a1 else z_lnsN_117 a a_5) /\ ((gD a_7.l i).b0 = bif z_lnsN_132 i a_5 then (gD a_5.l i).b0 else z_lnsN_118 a a_5) /\ (gD a_7.l i).b1 = bif
 z_lnsN_132 i a_5 then (gD a_5.l i).b1 else z_lnsN_119 a a_5) /\ z_lnsN_134 a_7 a a_5 else ∃ (a_7 : LnK), (z_lnsN_63 /\ z_lnsN_135 a_7 a_5 /\ z_lnsN_63 /\ z_lnsN_128 a /\ z_lnsN_129 a /\ z_lnsN_130 a_7 a_5 /\ z_lnsN_136 a a_7
 a_5) /\ z_lnsN_134 a_7 a a_5) /\ z_lnsN_137 a a_5 /\ z_lnsN_137 a a_5 else (lnsM (sB a) a.st).length = a_5.l.length /\ z_lnsN_138 a_5 /\ (∀ (j : Nat), j < (lnsM (sB a) a.st).length -> (gD (lnsM (sB a) a.st) j).a0 = z_lnsN_140
 a_5 j /\ (gD (lnsM (sB a) a.st) j).a1 = z_lnsN_141 a_5 j /\ (gD (lnsM (sB a) a.st) j).b0 = z_lnsN_142 a_5 j /\ (gD (lnsM (sB a) a.st) j).b1 = z_lnsN_143 a_5 j) /\ z_lnsN_56 a
abbrev z_lnsN_145 (a : BkS) : List Gau := rng (z_lnsN_41 a) λ (i : Nat) => z_lnsN_43 a i
abbrev z_lnsN_146 (a : BkS) : Nat := (z_lnsN_145 a).length
abbrev z_lnsN_147 (a : BkS) (i : Nat) : Gau := gD (z_lnsN_145 a) i
abbrev z_lnsN_148 (a : BkS) (i : Nat) : Int := (z_lnsN_147 a i).st
abbrev z_lnsN_149 (a : BkS) (i : Nat) : Int := (z_lnsN_147 a i).lo
abbrev z_lnsN_150 (a : BkS) (i : Nat) : Int := (z_lnsN_147 a i).hi
abbrev z_lnsN_151 (a : BkS) : List Gau := rng (z_lnsN_146 a) λ (i : Nat) => z_lnsN_147 a i
abbrev z_lnsN_152 (a : BkS) : Nat := (z_lnsN_151 a).length
abbrev z_lnsN_153 (a : BkS) (i : Nat) : Gau := gD (z_lnsN_151 a) i
abbrev z_lnsN_154 (a : BkS) : List Pt := endsM (z_lnsN_151 a)
abbrev z_lnsN_155 (a : BkS) : Nat := (z_lnsN_154 a).length
abbrev z_lnsN_156 (a : BkS) : Prop := (endsM (sB a)).length = z_lnsN_155 a
abbrev z_lnsN_157 (a : BkS) (i : Nat) : Pt := gD (z_lnsN_154 a) i
abbrev z_lnsN_158 (a : BkS) : Prop := ∀ (i : Nat), i < (endsM (sB a)).length -> (gD (endsM (sB a)) i).st = (z_lnsN_157 a i).st /\ (gD (endsM (sB a)) i).fl = (z_lnsN_157 a i).fl
abbrev z_lnsN_159 (a : BkS) : Prop := a.w.g.length = a.w.g.length
abbrev z_lnsN_160 (a : BkS) : Prop := ∀ (i : Nat), i < a.w.g.length -> (gD a.w.g i).st = (gD a.w.g i).st /\ (gD a.w.g i).lo = (gD a.w.g i).lo /\ (gD a.w.g i).hi = (gD a.w.g i).hi
abbrev z_lnsN_161 (a : BkS) : Prop := a.w.b.length = a.w.b.length
abbrev z_lnsN_162 (a : BkS) : Prop := ∀ (i : Nat), i < a.w.b.length -> gD a.w.b i = gD a.w.b i
abbrev z_lnsN_163 (a : BkS) : Prop := ∀ (n : Int), (fdM a.w n).length = (fdM a.w n).length /\ ∀ (i : Nat), z_lnsN_21 i a n -> (gD (fdM a.w n) i).a0 = (gD (fdM a.w n) i).a0 /\ (gD (fdM a.w n) i).a1 = (gD (fdM a.w n) i).a1 /\
 (gD (fdM a.w n) i).b0 = (gD (fdM a.w n) i).b0 /\ (gD (fdM a.w n) i).b1 = (gD (fdM a.w n) i).b1
abbrev z_lnsN_164 : Prop := z_lnsN_63 /\ ∀ (i : Nat), i < (0 : Nat) -> false = false
abbrev z_lnsN_165 (a : Nat) (a1 : BkS) : Prop := a <= (endsM (sB a1)).length /\ List.filter (paM (sB a1)) (preO (sB a1) a) = []
abbrev z_lnsN_166 : Prop := (True /\ ((0 : Nat) < (0 : Nat) -> (0 : Nat) = (4 : Nat))) /\ z_lnsN_123 /\ (true = true -> z_lnsN_122) /\ (1 : Nat) <= (9223372036854775807 : Nat) /\ (32 : Nat) <= (140737488355328 : Nat)
abbrev z_lnsN_167 (a : LnJ) : Prop := (↑a.j : Int) = (0 : Int)
abbrev z_lnsN_168 (a : LnJ) : Prop := a.l.length = (1 : Nat)
abbrev z_lnsN_169 (a : LnJ) (a1 : BkS) : Prop := a.i < (endsM (sB a1)).length
abbrev z_lnsN_170 (a : LnJ) (a1 : BkS) : Prop := a.j <= (endsM (sB a1)).length
abbrev z_lnsN_171 (a : BkS) (a1 : LnJ) : Nat := (endsM (sB a)).length - a1.i
abbrev z_lnsN_172 (a : LnJ) (a1 : BkS) : Prop := a.l = List.filter (paM (sB a1)) (preI (sB a1) a.i a.j)
abbrev z_lnsN_173 (a : LnJ) (a1 : BkS) (a2 : Nat) : Prop := z_lnsN_169 a a1 /\ z_lnsN_170 a a1 /\ z_lnsN_171 a1 a = z_lnsN_94 a1 a2 /\ z_lnsN_172 a a1
abbrev z_lnsN_174 (a : IJ) (a1 : BkS) : Prop := a.i < (endsM (sB a1)).length
abbrev z_lnsN_175 (a : IJ) (a1 : BkS) : Prop := a.j <= (endsM (sB a1)).length
abbrev z_lnsN_176 (a : BkS) (a1 : IJ) : Nat := (endsM (sB a)).length - a1.i
abbrev z_lnsN_177 (a : BkS) (a1 : IJ) : Prop := List.filter (paM (sB a)) (preI (sB a) a1.i a1.j) = []
abbrev z_lnsN_178 (a : IJ) (a1 : BkS) (a2 : Nat) : Prop := z_lnsN_174 a a1 /\ z_lnsN_175 a a1 /\ z_lnsN_176 a1 a = z_lnsN_94 a1 a2 /\ z_lnsN_177 a1 a
abbrev z_lnsN_179 (a : IJ) (a1 : BkS) : Prop := (↑a.j : Int) < (↑(endsM (sB a1)).length : Int)
abbrev z_lnsN_180 (a : IJ) (a1 : BkS) : Bool := decide (z_lnsN_179 a a1)
abbrev z_lnsN_181 (a : IJ) (a1 : BkS) : Prop := (0 : Int) <= (↑a.j : Int) /\ z_lnsN_179 a a1
abbrev z_lnsN_182 (a : BkS) (a1 : IJ) : Ln := Ln.mk (gD (endsM (sB a)) a1.i).st (gD (endsM (sB a)) a1.i).fl (gD (endsM (sB a)) a1.j).st (gD (endsM (sB a)) a1.j).fl
abbrev z_lnsN_183 (a : BkS) (a1 : IJ) : Bool := riL (z_lnsN_182 a a1)
abbrev z_lnsN_184 (a : BkS) (a1 : IJ) : Bool := if true = true then z_lnsN_183 a a1 else !z_lnsN_183 a a1
abbrev z_lnsN_185 (a : BkS) (a1 : IJ) : Prop := z_lnsN_60 a /\ z_lnsN_62 a /\ (gD (endsM (sB a)) a1.i).st = (gD (endsM (sB a)) a1.i).st /\ (gD (endsM (sB a)) a1.i).fl = (gD (endsM (sB a)) a1.i).fl /\ (gD (endsM (sB a))
 a1.j).st = (gD (endsM (sB a)) a1.j).st /\ (gD (endsM (sB a)) a1.j).fl = (gD (endsM (sB a)) a1.j).fl /\ z_lnsN_120 a /\ ∀ (g : Gau), z_lnsN_121 g a -> ((0 : Int) <= (gD (endsM (sB a)) a1.i).st /\ (gD (endsM (sB a)) a1.i).st <
 (gD (endsM (sB a)) a1.j).st /\ (gD (endsM (sB a)) a1.j).st <= (2000 : Int) /\ (0 : Int) <= (gD (endsM (sB a)) a1.i).fl /\ (gD (endsM (sB a)) a1.i).fl <= (gD (endsM (sB a)) a1.j).fl /\ (gD (endsM (sB a)) a1.j).fl <= (200000 :
 Int)) /\ z_lnsN_22 g
abbrev z_lnsN_186 (a : BkS) (a1 : IJ) : Bool := (z_lnsN_58 a).all λ (g : Gau) => passM (z_lnsN_182 a a1) g
abbrev z_lnsN_187 (a : IJ) : Int := IntKind.i64.wrap ((↑a.j : Int) + (1 : Int))
abbrev z_lnsN_188 (a : BkS) (a1 : LnJ) (a2 : IJ) (l : Nat) : Prop := z_lnsN_89 a /\ z_lnsN_90 a /\ z_lnsN_91 a /\ (↑a1.j : Int) = z_lnsN_187 a2 /\ Fn.yield l = Fn.yield l /\ z_lnsN_89 a /\ z_lnsN_90 a /\ z_lnsN_89 a /\ z_lnsN_90
 a /\ z_lnsN_91 a /\ (↑a1.i : Int) = (↑a2.i : Int) /\ (gD (endsM (sB a)) a1.i).st = (gD (endsM (sB a)) a2.i).st /\ (gD (endsM (sB a)) a1.i).fl = (gD (endsM (sB a)) a2.i).fl /\ z_lnsN_159 a /\ z_lnsN_160 a /\ z_lnsN_161 a /\
 z_lnsN_162 a /\ z_lnsN_10 /\ z_lnsN_11 a /\ z_lnsN_12 a /\ z_lnsN_163 a /\ z_lnsN_69 a /\ z_lnsN_70 a /\ z_lnsN_63 /\ z_lnsN_168 a1 /\ z_lnsN_168 a1 /\ ∀ (i : Nat), i < a1.l.length -> (gD a1.l i).a0 = (gD (endsM (sB a)) a2.i).st /\
 (gD a1.l i).a1 = (gD (endsM (sB a)) a2.i).fl /\ (gD a1.l i).b0 = (gD (endsM (sB a)) a2.j).st /\ (gD a1.l i).b1 = (gD (endsM (sB a)) a2.j).fl
abbrev z_lnsN_189 (a : BkS) (a1 : LnJ) : Nat := (endsM (sB a)).length - a1.j
abbrev z_lnsN_190 (a : BkS) (a1 : IJ) : Nat := (endsM (sB a)).length - a1.j
abbrev z_lnsN_191 (a : BkS) (a1 : LnJ) (a2 : IJ) : Prop := z_lnsN_189 a a1 < z_lnsN_190 a a2
abbrev z_lnsN_192 (a : BkS) : Prop := z_lnsN_159 a /\ z_lnsN_160 a /\ z_lnsN_161 a /\ z_lnsN_162 a /\ z_lnsN_10 /\ z_lnsN_11 a /\ z_lnsN_12 a /\ z_lnsN_163 a /\ z_lnsN_69 a /\ z_lnsN_70 a /\ z_lnsN_164
abbrev z_lnsN_193 (a : BkS) (a1 : IJ) (a2 : IJ) (l : Nat) : Prop := z_lnsN_89 a /\ z_lnsN_90 a /\ z_lnsN_91 a /\ (↑a1.j : Int) = z_lnsN_187 a2 /\ Fn.yield l = Fn.yield l /\ z_lnsN_89 a /\ z_lnsN_90 a /\ z_lnsN_89 a /\ z_lnsN_90
 a /\ z_lnsN_91 a /\ (↑a1.i : Int) = (↑a2.i : Int) /\ (gD (endsM (sB a)) a1.i).st = (gD (endsM (sB a)) a2.i).st /\ (gD (endsM (sB a)) a1.i).fl = (gD (endsM (sB a)) a2.i).fl /\ z_lnsN_192 a
abbrev z_lnsN_194 (a : BkS) (a1 : IJ) (a2 : IJ) : Prop := z_lnsN_190 a a1 < z_lnsN_190 a a2
abbrev z_lnsN_195 (a : BkS) (a1 : IJ) (l : Nat) (a2 : Nat) : Prop := ∃ (a_1 : IJ), z_lnsN_193 a a_1 a1 l /\ z_lnsN_178 a_1 a a2 /\ z_lnsN_194 a a_1 a1
abbrev z_lnsN_196 (l : Nat) (a : BkS) (a1 : Nat) (a2 : IJ) : Prop := Fn.yield l = Fn.yield l /\ z_lnsN_89 a /\ z_lnsN_90 a /\ z_lnsN_89 a /\ z_lnsN_90 a /\ z_lnsN_91 a /\ (↑a1 : Int) = IntKind.i64.wrap ((↑a2.i : Int) + (1 :
 Int)) /\ z_lnsN_192 a
abbrev z_lnsN_197 (a : LnJ) (a1 : BkS) : Prop := (↑a.j : Int) < (↑(endsM (sB a1)).length : Int)
abbrev z_lnsN_198 (a : LnJ) (a1 : BkS) : Bool := decide (z_lnsN_197 a a1)
abbrev z_lnsN_199 (a : LnJ) (a1 : BkS) : Prop := (0 : Int) <= (↑a.j : Int) /\ z_lnsN_197 a a1
abbrev z_lnsN_200 (a : BkS) (a1 : LnJ) : Ln := Ln.mk (gD (endsM (sB a)) a1.i).st (gD (endsM (sB a)) a1.i).fl (gD (endsM (sB a)) a1.j).st (gD (endsM (sB a)) a1.j).fl
abbrev z_lnsN_201 (a : BkS) (a1 : LnJ) : Bool := riL (z_lnsN_200 a a1)
abbrev z_lnsN_202 (a : BkS) (a1 : LnJ) : Bool := if true = true then z_lnsN_201 a a1 else !z_lnsN_201 a a1
abbrev z_lnsN_203 (a : BkS) (a1 : LnJ) : Prop := z_lnsN_60 a /\ z_lnsN_62 a /\ (gD (endsM (sB a)) a1.i).st = (gD (endsM (sB a)) a1.i).st /\ (gD (endsM (sB a)) a1.i).fl = (gD (endsM (sB a)) a1.i).fl /\ (gD (endsM (sB a))
 a1.j).st = (gD (endsM (sB a)) a1.j).st /\ (gD (endsM (sB a)) a1.j).fl = (gD (endsM (sB a)) a1.j).fl /\ z_lnsN_120 a /\ ∀ (g : Gau), z_lnsN_121 g a -> ((0 : Int) <= (gD (endsM (sB a)) a1.i).st /\ (gD (endsM (sB a)) a1.i).st <
 (gD (endsM (sB a)) a1.j).st /\ (gD (endsM (sB a)) a1.j).st <= (2000 : Int) /\ (0 : Int) <= (gD (endsM (sB a)) a1.i).fl /\ (gD (endsM (sB a)) a1.i).fl <= (gD (endsM (sB a)) a1.j).fl /\ (gD (endsM (sB a)) a1.j).fl <= (200000 :
 Int)) /\ z_lnsN_22 g
abbrev z_lnsN_204 (a : BkS) (a1 : LnJ) : Bool := (z_lnsN_58 a).all λ (g : Gau) => passM (z_lnsN_200 a a1) g
abbrev z_lnsN_205 (a : LnJ) : Nat := a.l.length + (1 : Nat)
abbrev z_lnsN_206 (a : LnJ) : Prop := (a.l.length = a.l.length /\ ((0 : Nat) < a.l.length -> z_lnsN_85)) /\ z_lnsN_123 /\ z_lnsN_124 /\ z_lnsN_205 a <= (9223372036854775807 : Nat) /\ z_lnsN_205 a * (32 : Nat) <= (140737488355328
 : Nat)
abbrev z_lnsN_207 (a : LnJ) (a1 : LnJ) : Prop := (↑a.j : Int) = IntKind.i64.wrap ((↑a1.j : Int) + (1 : Int))
abbrev z_lnsN_208 (a : LnJ) (a1 : LnJ) : Prop := (↑a.i : Int) = (↑a1.i : Int)
abbrev z_lnsN_209 (a : BkS) (a1 : LnJ) (a2 : LnJ) : Prop := (gD (endsM (sB a)) a1.i).st = (gD (endsM (sB a)) a2.i).st
abbrev z_lnsN_210 (a : BkS) (a1 : LnJ) (a2 : LnJ) : Prop := (gD (endsM (sB a)) a1.i).fl = (gD (endsM (sB a)) a2.i).fl
abbrev z_lnsN_211 (a : LnJ) (a1 : LnJ) : Prop := a.l.length = z_lnsN_205 a1
abbrev z_lnsN_212 (i : Nat) (a : LnJ) : Bool := decide (i < a.l.length)
abbrev z_lnsN_213 (a : BkS) (a1 : LnJ) (a2 : LnJ) (l : Nat) : Prop := z_lnsN_89 a /\ z_lnsN_90 a /\ z_lnsN_91 a /\ z_lnsN_207 a1 a2 /\ Fn.yield l = Fn.yield l /\ z_lnsN_89 a /\ z_lnsN_90 a /\ z_lnsN_89 a /\ z_lnsN_90 a /\
 z_lnsN_91 a /\ z_lnsN_208 a1 a2 /\ z_lnsN_209 a a1 a2 /\ z_lnsN_210 a a1 a2 /\ z_lnsN_159 a /\ z_lnsN_160 a /\ z_lnsN_161 a /\ z_lnsN_162 a /\ z_lnsN_10 /\ z_lnsN_11 a /\ z_lnsN_12 a /\ z_lnsN_163 a /\ z_lnsN_69 a /\ z_lnsN_70 a /\
 z_lnsN_63 /\ z_lnsN_211 a1 a2 /\ z_lnsN_211 a1 a2 /\ ∀ (i : Nat), i < a1.l.length -> ((gD a1.l i).a0 = bif z_lnsN_212 i a2 then (gD a2.l i).a0 else (gD (endsM (sB a)) a2.i).st) /\ ((gD a1.l i).a1 = bif z_lnsN_212 i a2 then
 (gD a2.l i).a1 else (gD (endsM (sB a)) a2.i).fl) /\ ((gD a1.l i).b0 = bif z_lnsN_212 i a2 then (gD a2.l i).b0 else (gD (endsM (sB a)) a2.j).st) /\ (gD a1.l i).b1 = bif z_lnsN_212 i a2 then (gD a2.l i).b1 else (gD (endsM
 (sB a)) a2.j).fl
abbrev z_lnsN_214 (a : BkS) (a1 : LnJ) (a2 : LnJ) : Prop := z_lnsN_189 a a1 < z_lnsN_189 a a2
abbrev z_lnsN_215 (a : LnJ) (a1 : BkS) (a2 : Nat) (a3 : LnJ) : Prop := z_lnsN_173 a a1 a2 /\ z_lnsN_214 a1 a a3
abbrev z_lnsN_216 (a : LnJ) (a1 : LnJ) : Prop := a.l.length = a1.l.length
abbrev z_lnsN_217 (a : BkS) (a1 : LnJ) (a2 : LnJ) (l : Nat) : Prop := z_lnsN_89 a /\ z_lnsN_90 a /\ z_lnsN_91 a /\ z_lnsN_207 a1 a2 /\ Fn.yield l = Fn.yield l /\ z_lnsN_89 a /\ z_lnsN_90 a /\ z_lnsN_89 a /\ z_lnsN_90 a /\
 z_lnsN_91 a /\ z_lnsN_208 a1 a2 /\ z_lnsN_209 a a1 a2 /\ z_lnsN_210 a a1 a2 /\ z_lnsN_159 a /\ z_lnsN_160 a /\ z_lnsN_161 a /\ z_lnsN_162 a /\ z_lnsN_10 /\ z_lnsN_11 a /\ z_lnsN_12 a /\ z_lnsN_163 a /\ z_lnsN_69 a /\ z_lnsN_70 a /\
 z_lnsN_63 /\ z_lnsN_216 a1 a2 /\ z_lnsN_216 a1 a2 /\ ∀ (i : Nat), i < a1.l.length -> (gD a1.l i).a0 = (gD a2.l i).a0 /\ (gD a1.l i).a1 = (gD a2.l i).a1 /\ (gD a1.l i).b0 = (gD a2.l i).b0 /\ (gD a1.l i).b1 = (gD a2.l i).b1
abbrev z_lnsN_218 (a : BkS) (a1 : LnJ) (l : Nat) (a2 : Nat) : Prop := ∃ (a_1 : LnJ), z_lnsN_217 a a_1 a1 l /\ z_lnsN_215 a_1 a a2 a1
abbrev z_lnsN_219 (a : LnK) (a1 : LnJ) : Prop := a.l.length = a1.l.length
abbrev z_lnsN_220 (l : Nat) (a : BkS) (a1 : LnK) (a2 : LnJ) : Prop := Fn.yield l = Fn.yield l /\ z_lnsN_89 a /\ z_lnsN_90 a /\ z_lnsN_89 a /\ z_lnsN_90 a /\ z_lnsN_91 a /\ (↑a1.i : Int) = IntKind.i64.wrap ((↑a2.i : Int) + (1 :
 Int)) /\ z_lnsN_159 a /\ z_lnsN_160 a /\ z_lnsN_161 a /\ z_lnsN_162 a /\ z_lnsN_10 /\ z_lnsN_11 a /\ z_lnsN_12 a /\ z_lnsN_163 a /\ z_lnsN_69 a /\ z_lnsN_70 a /\ z_lnsN_63 /\ z_lnsN_219 a1 a2 /\ z_lnsN_219 a1 a2 /\ ∀ (i : Nat), i <
 a1.l.length -> (gD a1.l i).a0 = (gD a2.l i).a0 /\ (gD a1.l i).a1 = (gD a2.l i).a1 /\ (gD a1.l i).b0 = (gD a2.l i).b0 /\ (gD a1.l i).b1 = (gD a2.l i).b1
abbrev z_lnsN_221 (a : LnK) (a1 : BkS) : Prop := a.i <= (endsM (sB a1)).length /\ a.l = List.filter (paM (sB a1)) (preO (sB a1) a.i)
abbrev z_lnsN_222 (a : BkS) (a1 : LnK) : Nat := (endsM (sB a)).length - a1.i
abbrev z_lnsN_223 (a : BkS) (a1 : Nat) (l : Nat) : Prop := ∀ (a_1 : LnJ), z_lnsN_173 a_1 a a1 -> bif z_lnsN_198 a_1 a then z_lnsN_199 a_1 a /\ bif z_lnsN_202 a a_1 then l = l /\ z_lnsN_203 a a_1 /\ bif z_lnsN_204 a a_1 then
 z_lnsN_206 a_1 /\ ∃ (a_3 : LnJ), z_lnsN_213 a a_3 a_1 l /\ z_lnsN_215 a_3 a a1 a_1 else z_lnsN_218 a a_1 l a1 else z_lnsN_218 a a_1 l a1 else ∃ (a_3 : LnK), z_lnsN_220 l a a_3 a_1 /\ z_lnsN_221 a_3 a /\ z_lnsN_222 a a_3 <
 z_lnsN_94 a a1
abbrev z_lnsN_224 (a : BkS) (a1 : Nat) (l : Nat) : Prop := (∀ (a_1 : IJ), z_lnsN_178 a_1 a a1 -> bif z_lnsN_180 a_1 a then z_lnsN_181 a_1 a /\ bif z_lnsN_184 a a_1 then l = l /\ z_lnsN_185 a a_1 /\ bif z_lnsN_186 a a_1 then
 z_lnsN_166 /\ ∃ (a_3 : LnJ), z_lnsN_188 a a_3 a_1 l /\ z_lnsN_173 a_3 a a1 /\ z_lnsN_191 a a_3 a_1 else z_lnsN_195 a a_1 l a1 else z_lnsN_195 a a_1 l a1 else ∃ (a_3 : Nat), z_lnsN_196 l a a_3 a_1 /\ z_lnsN_165 a_3 a /\
 z_lnsN_95 a a_3 a1) /\ z_lnsN_223 a a1 l /\ z_lnsN_223 a a1 l
abbrev z_lnsN_225 (a : BkS) : Prop := (flM (sB a)).length = (0 : Nat)
abbrev z_lnsN_226 (a : LnK) (a1 : BkS) : Prop := (↑a.i : Int) < (↑(endsM (sB a1)).length : Int)
abbrev z_lnsN_227 (a : BkS) (a1 : LnK) : Int := (levM (gD (endsM (sB a)) a1.i)).a0
abbrev z_lnsN_228 (a : BkS) (a1 : LnK) : Int := (levM (gD (endsM (sB a)) a1.i)).a1
abbrev z_lnsN_229 (a : BkS) (a1 : LnK) : Int := (levM (gD (endsM (sB a)) a1.i)).b0
abbrev z_lnsN_230 (a : BkS) (a1 : LnK) : Int := (levM (gD (endsM (sB a)) a1.i)).b1
abbrev z_lnsN_231 (a : LnJ) (a1 : LnK) : Prop := (↑a.i : Int) = (↑a1.i : Int)
abbrev z_lnsN_232 (a : BkS) (a1 : LnJ) (a2 : LnK) : Prop := (gD (endsM (sB a)) a1.i).st = (gD (endsM (sB a)) a2.i).st
abbrev z_lnsN_233 (a : BkS) (a1 : LnJ) (a2 : LnK) : Prop := (gD (endsM (sB a)) a1.i).fl = (gD (endsM (sB a)) a2.i).fl
abbrev z_lnsN_234 (a : LnJ) (a1 : LnK) : Prop := a.l.length = z_lnsN_125 a1
abbrev z_lnsN_235 (a : LnJ) (a1 : BkS) (a2 : LnK) : Prop := z_lnsN_169 a a1 /\ z_lnsN_170 a a1 /\ z_lnsN_171 a1 a = z_lnsN_222 a1 a2 /\ z_lnsN_172 a a1
abbrev z_lnsN_236 (a : IJ) (a1 : BkS) (a2 : LnK) : Prop := z_lnsN_174 a a1 /\ z_lnsN_175 a a1 /\ z_lnsN_176 a1 a = z_lnsN_222 a1 a2 /\ z_lnsN_177 a1 a
abbrev z_lnsN_237 (a : BkS) (a1 : IJ) (l : Nat) (a2 : LnK) : Prop := ∃ (a_1 : IJ), z_lnsN_193 a a_1 a1 l /\ z_lnsN_236 a_1 a a2 /\ z_lnsN_194 a a_1 a1
abbrev z_lnsN_238 (a : LnJ) (a1 : BkS) (a2 : LnK) (a3 : LnJ) : Prop := z_lnsN_235 a a1 a2 /\ z_lnsN_214 a1 a a3
abbrev z_lnsN_239 (a : BkS) (a1 : LnJ) (l : Nat) (a2 : LnK) : Prop := ∃ (a_1 : LnJ), z_lnsN_217 a a_1 a1 l /\ z_lnsN_238 a_1 a a2 a1
abbrev z_lnsN_240 (a : BkS) (a1 : LnK) (l : Nat) : Prop := ∀ (a_1 : LnJ), z_lnsN_235 a_1 a a1 -> bif z_lnsN_198 a_1 a then z_lnsN_199 a_1 a /\ bif z_lnsN_202 a a_1 then l = l /\ z_lnsN_203 a a_1 /\ bif z_lnsN_204 a a_1 then
 z_lnsN_206 a_1 /\ ∃ (a_3 : LnJ), z_lnsN_213 a a_3 a_1 l /\ z_lnsN_238 a_3 a a1 a_1 else z_lnsN_239 a a_1 l a1 else z_lnsN_239 a a_1 l a1 else ∃ (a_3 : LnK), z_lnsN_220 l a a_3 a_1 /\ z_lnsN_221 a_3 a /\ z_lnsN_222 a a_3 <
 z_lnsN_222 a a1
abbrev z_lnsN_241 (a : BkS) (a1 : LnK) (l : Nat) : Prop := (∀ (a_1 : IJ), z_lnsN_236 a_1 a a1 -> bif z_lnsN_180 a_1 a then z_lnsN_181 a_1 a /\ bif z_lnsN_184 a a_1 then l = l /\ z_lnsN_185 a a_1 /\ bif z_lnsN_186 a a_1 then
 z_lnsN_166 /\ ∃ (a_3 : LnJ), z_lnsN_188 a a_3 a_1 l /\ z_lnsN_235 a_3 a a1 /\ z_lnsN_191 a a_3 a_1 else z_lnsN_237 a a_1 l a1 else z_lnsN_237 a a_1 l a1 else ∃ (a_3 : Nat), z_lnsN_196 l a a_3 a_1 /\ z_lnsN_165 a_3 a /\
 z_lnsN_94 a a_3 < z_lnsN_222 a a1) /\ z_lnsN_240 a a1 l /\ z_lnsN_240 a a1 l
abbrev z_lnsN_242 (a : LnJ) (a1 : LnK) : Prop := a.l.length = a1.l.length
abbrev z_lnsN_243 (n : Int) (a : BkS) : Bool := decide (n = a.k)
abbrev z_lnsN_244 (a : BkS) : Prop := ∀ (a_1 : One), True -> ∃ (a_3 : One), (a.st = a.st /\ z_lnsN_23 a /\ z_lnsN_29 a /\ z_lnsN_30 a /\ z_lnsN_33 a /\ z_lnsN_10 /\ (∀ (n : Int), (upB a.w a.k).has n = hasUp a.w.has a.k n) /\ (∀
 (n : Int), (upB a.w a.k).st n = stUp a.w.has a.w.st a.k n) /\ (∀ (n : Int), ((fdM (upB a.w a.k) n).length = bif z_lnsN_243 n a then (flM (sB a)).length else (fdM a.w n).length) /\ ∀ (i : Nat), z_lnsN_34 i a n -> (z_lnsN_36
 a n i = bif z_lnsN_243 n a then (gD (flM (sB a)) i).a0 else (gD (fdM a.w n) i).a0) /\ (z_lnsN_37 a n i = bif z_lnsN_243 n a then (gD (flM (sB a)) i).a1 else (gD (fdM a.w n) i).a1) /\ (z_lnsN_38 a n i = bif z_lnsN_243 n a
 then (gD (flM (sB a)) i).b0 else (gD (fdM a.w n) i).b0) /\ z_lnsN_39 a n i = bif z_lnsN_243 n a then (gD (flM (sB a)) i).b1 else (gD (fdM a.w n) i).b1) /\ z_lnsN_69 a /\ z_lnsN_70 a /\ z_lnsN_71 a /\ z_lnsN_72 a) /\ True
theorem vc_lnsN (a : BkS) : (V_lnsN a) = ((a.k = a.k /\ z_lnsN_1 a = a.w.g.length /\ (∀ (i : Nat), i < z_lnsN_1 a -> z_lnsN_3 a i = (gD a.w.g i).st /\ z_lnsN_4 a i = (gD a.w.g i).lo /\ z_lnsN_5 a i = (gD a.w.g i).hi) /\
 z_lnsN_7 a = a.w.b.length /\ (∀ (i : Nat), i < z_lnsN_7 a -> z_lnsN_8 a i = gD a.w.b i) /\ z_lnsN_10 /\ z_lnsN_11 a /\ z_lnsN_12 a /\ (∀ (n : Int), z_lnsN_15 a n = (fdM a.w n).length /\ ∀ (i : Nat), i < z_lnsN_15 a n ->
 z_lnsN_17 a n i = (gD (fdM a.w n) i).a0 /\ z_lnsN_18 a n i = (gD (fdM a.w n) i).a1 /\ z_lnsN_19 a n i = (gD (fdM a.w n) i).b0 /\ z_lnsN_20 a n i = (gD (fdM a.w n) i).b1) /\ a.w.g.length = z_lnsN_1 a /\ (∀ (i : Nat), i <
 a.w.g.length -> (gD a.w.g i).st = z_lnsN_3 a i /\ (gD a.w.g i).lo = z_lnsN_4 a i /\ (gD a.w.g i).hi = z_lnsN_5 a i) /\ a.w.b.length = z_lnsN_7 a /\ (∀ (i : Nat), i < a.w.b.length -> gD a.w.b i = z_lnsN_8 a i) /\ z_lnsN_10 /\
 z_lnsN_11 a /\ z_lnsN_12 a /\ (∀ (n : Int), (fdM a.w n).length = z_lnsN_15 a n /\ ∀ (i : Nat), z_lnsN_21 i a n -> (gD (fdM a.w n) i).a0 = z_lnsN_17 a n i /\ (gD (fdM a.w n) i).a1 = z_lnsN_18 a n i /\ (gD (fdM a.w n) i).b0 =
 z_lnsN_19 a n i /\ (gD (fdM a.w n) i).b1 = z_lnsN_20 a n i) /\ (z_lnsN_1 a <= (24 : Nat) /\ (∀ (x : Gau), List.Mem x (z_lnsN_0 a) -> z_lnsN_22 x) /\ z_lnsN_7 a <= (24 : Nat) /\ List.Pairwise (λ (x1 x2 : Int) => x1 < x2)
 (z_lnsN_6 a) /\ ∀ (x : Int), List.Mem x (z_lnsN_6 a) -> (1 : Int) <= x /\ x <= (2000 : Int)) /\ True) /\ z_lnsN_10 /\ bif a.w.has a.k then (∃ (a_1 : One), (a.st = a.st /\ z_lnsN_23 a /\ z_lnsN_29 a /\ z_lnsN_30 a /\ z_lnsN_33 a /\
 z_lnsN_10 /\ (∀ (n : Int), (upB a.w a.k).has n = a.w.has n) /\ (∀ (n : Int), (upB a.w a.k).st n = a.w.st n) /\ (∀ (n : Int), (fdM (upB a.w a.k) n).length = (fdM a.w n).length /\ ∀ (i : Nat), z_lnsN_34 i a n -> z_lnsN_36 a n i
 = (gD (fdM a.w n) i).a0 /\ z_lnsN_37 a n i = (gD (fdM a.w n) i).a1 /\ z_lnsN_38 a n i = (gD (fdM a.w n) i).b0 /\ z_lnsN_39 a n i = (gD (fdM a.w n) i).b1) /\ z_lnsN_42 a /\ z_lnsN_47 a /\ (flM (sB a)).length = (fdM a.w
 a.k).length /\ ∀ (i : Nat), i < (flM (sB a)).length -> (gD (flM (sB a)) i).a0 = (gD (fdM a.w a.k) i).a0 /\ (gD (flM (sB a)) i).a1 = (gD (fdM a.w a.k) i).a1 /\ (gD (flM (sB a)) i).b0 = (gD (fdM a.w a.k) i).b0 /\ (gD (flM (sB
 a)) i).b1 = (gD (fdM a.w a.k) i).b1) /\ True) /\ z_lnsN_144 a else (((z_lnsN_146 a = z_lnsN_41 a /\ ∀ (i : Nat), i < z_lnsN_146 a -> z_lnsN_148 a i = z_lnsN_44 a i /\ z_lnsN_149 a i = z_lnsN_45 a i /\ z_lnsN_150 a i =
 z_lnsN_46 a i) /\ ∀ (l : Nat), (z_lnsN_152 a = z_lnsN_146 a /\ (∀ (i : Nat), i < z_lnsN_152 a -> (z_lnsN_153 a i).st = z_lnsN_148 a i /\ (z_lnsN_153 a i).lo = z_lnsN_149 a i /\ (z_lnsN_153 a i).hi = z_lnsN_150 a i) /\
 z_lnsN_152 a < (1073741824 : Nat) /\ True) /\ (∃ (a_1 : Nat), (Fn.yield l = Fn.yield l /\ z_lnsN_156 a /\ z_lnsN_158 a /\ z_lnsN_156 a /\ z_lnsN_158 a /\ (↑(endsM (sB a)).length : Int) = (↑(z_lnsN_155 a) : Int) /\ z_lnsN_68 a_1
 /\ z_lnsN_159 a /\ z_lnsN_160 a /\ z_lnsN_161 a /\ z_lnsN_162 a /\ z_lnsN_10 /\ z_lnsN_11 a /\ z_lnsN_12 a /\ z_lnsN_163 a /\ z_lnsN_42 a /\ z_lnsN_47 a /\ z_lnsN_164) /\ z_lnsN_165 a_1 a) /\ (∀ (a_1 : Nat), z_lnsN_165 a_1 a -> bif
 z_lnsN_83 a_1 a then z_lnsN_84 a_1 a /\ ((0 : Int) <= (gD (endsM (sB a)) a_1).st /\ (gD (endsM (sB a)) a_1).st <= (2000 : Int)) /\ l = l /\ (z_lnsN_60 a /\ z_lnsN_62 a /\ (levM (gD (endsM (sB a)) a_1)).a0 = (levM (gD (endsM (sB
 a)) a_1)).a0 /\ (levM (gD (endsM (sB a)) a_1)).a1 = (levM (gD (endsM (sB a)) a_1)).a1 /\ (levM (gD (endsM (sB a)) a_1)).b0 = (levM (gD (endsM (sB a)) a_1)).b0 /\ (levM (gD (endsM (sB a)) a_1)).b1 = (levM (gD (endsM (sB a))
 a_1)).b1 /\ z_lnsN_120 a /\ ∀ (g : Gau), z_lnsN_121 g a -> ((0 : Int) <= (levM (gD (endsM (sB a)) a_1)).a0 /\ (levM (gD (endsM (sB a)) a_1)).a0 < (levM (gD (endsM (sB a)) a_1)).b0 /\ (levM (gD (endsM (sB a)) a_1)).b0 <= (2000 :
 Int) /\ (0 : Int) <= (levM (gD (endsM (sB a)) a_1)).a1 /\ (levM (gD (endsM (sB a)) a_1)).a1 <= (levM (gD (endsM (sB a)) a_1)).b1 /\ (levM (gD (endsM (sB a)) a_1)).b1 <= (200000 : Int)) /\ z_lnsN_22 g) /\ bif (z_lnsN_58 a).all
 λ (g : Gau) => passM (levM (gD (endsM (sB a)) a_1)) g then z_lnsN_166 /\ (∃ (a_3 : LnJ), (z_lnsN_89 a /\ z_lnsN_90 a /\ z_lnsN_91 a /\ z_lnsN_167 a_3 /\ Fn.yield l = Fn.yield l /\ z_lnsN_89 a /\ z_lnsN_90 a /\ z_lnsN_89 a /\
 z_lnsN_90 a /\ z_lnsN_91 a /\ (↑a_3.i : Int) = (↑a_1 : Int) /\ (gD (endsM (sB a)) a_3.i).st = (gD (endsM (sB a)) a_1).st /\ (gD (endsM (sB a)) a_3.i).fl = (gD (endsM (sB a)) a_1).fl /\ z_lnsN_159 a /\ z_lnsN_160 a /\ z_lnsN_161
 a /\ z_lnsN_162 a /\ z_lnsN_10 /\ z_lnsN_11 a /\ z_lnsN_12 a /\ z_lnsN_163 a /\ z_lnsN_69 a /\ z_lnsN_70 a /\ z_lnsN_63 /\ z_lnsN_168 a_3 /\ z_lnsN_168 a_3 /\ ∀ (i : Nat), i < a_3.l.length -> (gD a_3.l i).a0 = (levM (gD (endsM (sB
 a)) a_1)).a0 /\ (gD a_3.l i).a1 = (levM (gD (endsM (sB a)) a_1)).a1 /\ (gD a_3.l i).b0 = (levM (gD (endsM (sB a)) a_1)).b0 /\ (gD a_3.l i).b1 = (levM (gD (endsM (sB a)) a_1)).b1) /\ z_lnsN_173 a_3 a a_1) /\ z_lnsN_224 a a_1 l
 else (∃ (a_3 : IJ), (z_lnsN_89 a /\ z_lnsN_90 a /\ z_lnsN_91 a /\ (↑a_3.j : Int) = (0 : Int) /\ Fn.yield l = Fn.yield l /\ z_lnsN_89 a /\ z_lnsN_90 a /\ z_lnsN_89 a /\ z_lnsN_90 a /\ z_lnsN_91 a /\ (↑a_3.i : Int) = (↑a_1 : Int) /\
 (gD (endsM (sB a)) a_3.i).st = (gD (endsM (sB a)) a_1).st /\ (gD (endsM (sB a)) a_3.i).fl = (gD (endsM (sB a)) a_1).fl /\ z_lnsN_192 a) /\ z_lnsN_178 a_3 a a_1) /\ z_lnsN_224 a a_1 l else ∃ (a_3 : One), (a.k = a.k /\ a.st =
 a.st /\ z_lnsN_159 a /\ z_lnsN_160 a /\ z_lnsN_161 a /\ z_lnsN_162 a /\ z_lnsN_10 /\ z_lnsN_11 a /\ z_lnsN_12 a /\ z_lnsN_163 a /\ z_lnsN_69 a /\ z_lnsN_70 a /\ z_lnsN_225 a /\ z_lnsN_225 a) /\ True) /\ ∀ (a_1 : LnK), z_lnsN_221 a_1 a
 -> bif decide (z_lnsN_226 a_1 a) then (z_lnsN_112 a_1 /\ z_lnsN_226 a_1 a) /\ ((0 : Int) <= (gD (endsM (sB a)) a_1.i).st /\ (gD (endsM (sB a)) a_1.i).st <= (2000 : Int)) /\ l = l /\ (z_lnsN_60 a /\ z_lnsN_62 a /\ z_lnsN_227 a a_1
 = z_lnsN_227 a a_1 /\ z_lnsN_228 a a_1 = z_lnsN_228 a a_1 /\ z_lnsN_229 a a_1 = z_lnsN_229 a a_1 /\ z_lnsN_230 a a_1 = z_lnsN_230 a a_1 /\ z_lnsN_120 a /\ ∀ (g : Gau), z_lnsN_121 g a -> ((0 : Int) <= z_lnsN_227 a a_1 /\
 z_lnsN_227 a a_1 < z_lnsN_229 a a_1 /\ z_lnsN_229 a a_1 <= (2000 : Int) /\ (0 : Int) <= z_lnsN_228 a a_1 /\ z_lnsN_228 a a_1 <= z_lnsN_230 a a_1 /\ z_lnsN_230 a a_1 <= (200000 : Int)) /\ z_lnsN_22 g) /\ bif (z_lnsN_58 a).all fun
 (g : Gau) => passM (levM (gD (endsM (sB a)) a_1.i)) g then z_lnsN_126 a_1 /\ (∃ (a_3 : LnJ), (z_lnsN_89 a /\ z_lnsN_90 a /\ z_lnsN_91 a /\ z_lnsN_167 a_3 /\ Fn.yield l = Fn.yield l /\ z_lnsN_89 a /\ z_lnsN_90 a /\ z_lnsN_89 a /\
 z_lnsN_90 a /\ z_lnsN_91 a /\ z_lnsN_231 a_3 a_1 /\ z_lnsN_232 a a_3 a_1 /\ z_lnsN_233 a a_3 a_1 /\ z_lnsN_159 a /\ z_lnsN_160 a /\ z_lnsN_161 a /\ z_lnsN_162 a /\ z_lnsN_10 /\ z_lnsN_11 a /\ z_lnsN_12 a /\ z_lnsN_163 a /\ z_lnsN_69
 a /\ z_lnsN_70 a /\ z_lnsN_63 /\ z_lnsN_234 a_3 a_1 /\ z_lnsN_234 a_3 a_1 /\ ∀ (i : Nat), i < a_3.l.length -> ((gD a_3.l i).a0 = bif z_lnsN_132 i a_1 then (gD a_1.l i).a0 else z_lnsN_227 a a_1) /\ ((gD a_3.l i).a1 = bif
 z_lnsN_132 i a_1 then (gD a_1.l i).a1 else z_lnsN_228 a a_1) /\ ((gD a_3.l i).b0 = bif z_lnsN_132 i a_1 then (gD a_1.l i).b0 else z_lnsN_229 a a_1) /\ (gD a_3.l i).b1 = bif z_lnsN_132 i a_1 then (gD a_1.l i).b1 else
 z_lnsN_230 a a_1) /\ z_lnsN_235 a_3 a a_1) /\ z_lnsN_241 a a_1 l else (∃ (a_3 : LnJ), (z_lnsN_89 a /\ z_lnsN_90 a /\ z_lnsN_91 a /\ z_lnsN_167 a_3 /\ Fn.yield l = Fn.yield l /\ z_lnsN_89 a /\ z_lnsN_90 a /\ z_lnsN_89 a /\
 z_lnsN_90 a /\ z_lnsN_91 a /\ z_lnsN_231 a_3 a_1 /\ z_lnsN_232 a a_3 a_1 /\ z_lnsN_233 a a_3 a_1 /\ z_lnsN_159 a /\ z_lnsN_160 a /\ z_lnsN_161 a /\ z_lnsN_162 a /\ z_lnsN_10 /\ z_lnsN_11 a /\ z_lnsN_12 a /\ z_lnsN_163 a /\ z_lnsN_69
 a /\ z_lnsN_70 a /\ z_lnsN_63 /\ z_lnsN_242 a_3 a_1 /\ z_lnsN_242 a_3 a_1 /\ ∀ (i : Nat), i < a_3.l.length -> (gD a_3.l i).a0 = (gD a_1.l i).a0 /\ (gD a_3.l i).a1 = (gD a_1.l i).a1 /\ (gD a_3.l i).b0 = (gD a_1.l i).b0 /\ (gD
 a_3.l i).b1 = (gD a_1.l i).b1) /\ z_lnsN_235 a_3 a a_1) /\ z_lnsN_241 a a_1 l else ∃ (a_3 : One), (a.k = a.k /\ a.st = a.st /\ z_lnsN_159 a /\ z_lnsN_160 a /\ z_lnsN_161 a /\ z_lnsN_162 a /\ z_lnsN_10 /\ z_lnsN_11 a /\ z_lnsN_12 a
 /\ z_lnsN_163 a /\ z_lnsN_69 a /\ z_lnsN_70 a /\ (flM (sB a)).length = a_1.l.length /\ z_lnsN_138 a_1 /\ ∀ (j : Nat), j < (flM (sB a)).length -> (gD (flM (sB a)) j).a0 = z_lnsN_140 a_1 j /\ (gD (flM (sB a)) j).a1 = z_lnsN_141
 a_1 j /\ (gD (flM (sB a)) j).b0 = z_lnsN_142 a_1 j /\ (gD (flM (sB a)) j).b1 = z_lnsN_143 a_1 j) /\ True) /\ z_lnsN_244 a /\ z_lnsN_244 a) /\ z_lnsN_144 a) := by kernel_rfl
def V_lnsE (a : BkS) : Prop := fnVC Try.prog (A_lnsE a) F_lines (bodyOf F_lines) (C_lns.xs a) (heapOf (C_lns.L a)) (C_lns.val a) (C_lns.keep a) [] [403]
abbrev z_lnsE_0 (a : BkS) : List Gau := rng a.w.g.length λ (i : Nat) => gD a.w.g i
abbrev z_lnsE_1 (a : BkS) : Nat := (z_lnsE_0 a).length
abbrev z_lnsE_2 (a : BkS) (i : Nat) : Gau := gD (z_lnsE_0 a) i
abbrev z_lnsE_3 (a : BkS) (i : Nat) : Int := (z_lnsE_2 a i).st
abbrev z_lnsE_4 (a : BkS) (i : Nat) : Int := (z_lnsE_2 a i).lo
abbrev z_lnsE_5 (a : BkS) (i : Nat) : Int := (z_lnsE_2 a i).hi
abbrev z_lnsE_6 (a : BkS) : List Int := rng a.w.b.length λ (i : Nat) => gD a.w.b i
abbrev z_lnsE_7 (a : BkS) : Nat := (z_lnsE_6 a).length
abbrev z_lnsE_8 (a : BkS) (i : Nat) : Int := gD (z_lnsE_6 a) i
abbrev z_lnsE_9 : Value := Value.slice none (0 : Nat) (0 : Nat)
abbrev z_lnsE_10 : Prop := z_lnsE_9 = z_lnsE_9
abbrev z_lnsE_11 (a : BkS) : Prop := ∀ (n : Int), a.w.has n = a.w.has n
abbrev z_lnsE_12 (a : BkS) : Prop := ∀ (n : Int), a.w.st n = a.w.st n
abbrev z_lnsE_13 (a : BkS) : Bk := Bk.mk (z_lnsE_0 a) (z_lnsE_6 a) a.w.has a.w.st
abbrev z_lnsE_14 (a : BkS) (n : Int) : List Ln := fdM (z_lnsE_13 a) n
abbrev z_lnsE_15 (a : BkS) (n : Int) : Nat := (z_lnsE_14 a n).length
abbrev z_lnsE_16 (a : BkS) (n : Int) (i : Nat) : Ln := gD (z_lnsE_14 a n) i
abbrev z_lnsE_17 (a : BkS) (n : Int) (i : Nat) : Int := (z_lnsE_16 a n i).a0
abbrev z_lnsE_18 (a : BkS) (n : Int) (i : Nat) : Int := (z_lnsE_16 a n i).a1
abbrev z_lnsE_19 (a : BkS) (n : Int) (i : Nat) : Int := (z_lnsE_16 a n i).b0
abbrev z_lnsE_20 (a : BkS) (n : Int) (i : Nat) : Int := (z_lnsE_16 a n i).b1
abbrev z_lnsE_21 (i : Nat) (a : BkS) (n : Int) : Prop := i < (fdM a.w n).length
abbrev z_lnsE_22 (x : Gau) : Prop := (0 : Int) <= x.st /\ x.st <= (2000 : Int) /\ (0 : Int) <= x.lo /\ x.lo <= x.hi /\ x.hi <= (200000 : Int)
abbrev z_lnsE_23 (a : BkS) : Prop := (upB a.w a.k).g.length = a.w.g.length
abbrev z_lnsE_24 (i : Nat) (a : BkS) : Prop := i < (upB a.w a.k).g.length
abbrev z_lnsE_25 (a : BkS) (i : Nat) : Gau := gD (upB a.w a.k).g i
abbrev z_lnsE_26 (a : BkS) (i : Nat) : Int := (z_lnsE_25 a i).st
abbrev z_lnsE_27 (a : BkS) (i : Nat) : Int := (z_lnsE_25 a i).lo
abbrev z_lnsE_28 (a : BkS) (i : Nat) : Int := (z_lnsE_25 a i).hi
abbrev z_lnsE_29 (a : BkS) : Prop := ∀ (i : Nat), z_lnsE_24 i a -> z_lnsE_26 a i = (gD a.w.g i).st /\ z_lnsE_27 a i = (gD a.w.g i).lo /\ z_lnsE_28 a i = (gD a.w.g i).hi
abbrev z_lnsE_30 (a : BkS) : Prop := (upB a.w a.k).b.length = a.w.b.length
abbrev z_lnsE_31 (i : Nat) (a : BkS) : Prop := i < (upB a.w a.k).b.length
abbrev z_lnsE_32 (a : BkS) (i : Nat) : Int := gD (upB a.w a.k).b i
abbrev z_lnsE_33 (a : BkS) : Prop := ∀ (i : Nat), z_lnsE_31 i a -> z_lnsE_32 a i = gD a.w.b i
abbrev z_lnsE_34 (i : Nat) (a : BkS) (n : Int) : Prop := i < (fdM (upB a.w a.k) n).length
abbrev z_lnsE_35 (a : BkS) (n : Int) (i : Nat) : Ln := gD (fdM (upB a.w a.k) n) i
abbrev z_lnsE_36 (a : BkS) (n : Int) (i : Nat) : Int := (z_lnsE_35 a n i).a0
abbrev z_lnsE_37 (a : BkS) (n : Int) (i : Nat) : Int := (z_lnsE_35 a n i).a1
abbrev z_lnsE_38 (a : BkS) (n : Int) (i : Nat) : Int := (z_lnsE_35 a n i).b0
abbrev z_lnsE_39 (a : BkS) (n : Int) (i : Nat) : Int := (z_lnsE_35 a n i).b1
abbrev z_lnsE_40 (a : BkS) : List Gau := insM (z_lnsE_13 a) a.k
abbrev z_lnsE_41 (a : BkS) : Nat := (z_lnsE_40 a).length
abbrev z_lnsE_42 (a : BkS) : Prop := (sB a).length = z_lnsE_41 a
abbrev z_lnsE_43 (a : BkS) (i : Nat) : Gau := gD (z_lnsE_40 a) i
abbrev z_lnsE_44 (a : BkS) (i : Nat) : Int := (z_lnsE_43 a i).st
abbrev z_lnsE_45 (a : BkS) (i : Nat) : Int := (z_lnsE_43 a i).lo
abbrev z_lnsE_46 (a : BkS) (i : Nat) : Int := (z_lnsE_43 a i).hi
abbrev z_lnsE_47 (a : BkS) : Prop := ∀ (i : Nat), i < (sB a).length -> (gD (sB a) i).st = z_lnsE_44 a i /\ (gD (sB a) i).lo = z_lnsE_45 a i /\ (gD (sB a) i).hi = z_lnsE_46 a i
abbrev z_lnsE_48 : Prop := (0 : Nat) = (0 : Nat)
abbrev z_lnsE_49 (a : BkS) : Prop := (lnsM (sB a) a.st).length = (0 : Nat)
abbrev z_lnsE_50 (a : BkS) : Prop := (upB a.w a.k).g.length = (upB a.w a.k).g.length
abbrev z_lnsE_51 (a : BkS) : Prop := ∀ (i : Nat), z_lnsE_24 i a -> z_lnsE_26 a i = z_lnsE_26 a i /\ z_lnsE_27 a i = z_lnsE_27 a i /\ z_lnsE_28 a i = z_lnsE_28 a i
abbrev z_lnsE_52 (a : BkS) : Prop := (upB a.w a.k).b.length = (upB a.w a.k).b.length
abbrev z_lnsE_53 (a : BkS) : Prop := ∀ (i : Nat), z_lnsE_31 i a -> z_lnsE_32 a i = z_lnsE_32 a i
abbrev z_lnsE_54 (a : BkS) : Prop := ∀ (n : Int), (upB a.w a.k).has n = (upB a.w a.k).has n
abbrev z_lnsE_55 (a : BkS) : Prop := ∀ (n : Int), (upB a.w a.k).st n = (upB a.w a.k).st n
abbrev z_lnsE_56 (a : BkS) : Prop := ∀ (n : Int), (fdM (upB a.w a.k) n).length = (fdM (upB a.w a.k) n).length /\ ∀ (i : Nat), z_lnsE_34 i a n -> z_lnsE_36 a n i = z_lnsE_36 a n i /\ z_lnsE_37 a n i = z_lnsE_37 a n i /\
 z_lnsE_38 a n i = z_lnsE_38 a n i /\ z_lnsE_39 a n i = z_lnsE_39 a n i
abbrev z_lnsE_57 (a : BkS) : Prop := z_lnsE_50 a /\ z_lnsE_51 a /\ z_lnsE_52 a /\ z_lnsE_53 a /\ z_lnsE_10 /\ z_lnsE_54 a /\ z_lnsE_55 a /\ z_lnsE_56 a
abbrev z_lnsE_58 (a : BkS) : Prop := z_lnsE_49 a /\ z_lnsE_49 a /\ z_lnsE_57 a
abbrev z_lnsE_59 (a : BkS) : Prop := (0 : Int) <= a.st /\ a.st <= (2000 : Int)
abbrev z_lnsE_60 (a : BkS) : List Gau := rng (sB a).length λ (i : Nat) => gD (sB a) i
abbrev z_lnsE_61 (a : BkS) : Nat := (z_lnsE_60 a).length
abbrev z_lnsE_62 (a : BkS) : Prop := z_lnsE_61 a = (sB a).length
abbrev z_lnsE_63 (a : BkS) (i : Nat) : Gau := gD (z_lnsE_60 a) i
abbrev z_lnsE_64 (a : BkS) : Prop := ∀ (i : Nat), i < z_lnsE_61 a -> (z_lnsE_63 a i).st = (gD (sB a) i).st /\ (z_lnsE_63 a i).lo = (gD (sB a) i).lo /\ (z_lnsE_63 a i).hi = (gD (sB a) i).hi
abbrev z_lnsE_65 (a : BkS) (a1 : Nat) : Prop := (moK (sB a) a.st a1).length = (2 : Nat)
abbrev z_lnsE_66 (a : BkS) : List Pt := endsM (z_lnsE_60 a)
abbrev z_lnsE_67 (a : BkS) : Nat := (z_lnsE_66 a).length
abbrev z_lnsE_68 (a : BkS) (i : Nat) : Pt := gD (z_lnsE_66 a) i
abbrev z_lnsE_69 (a : Nat) : Prop := (↑a : Int) = (0 : Int)
abbrev z_lnsE_70 (a : BkS) : Prop := (sB a).length = (sB a).length
abbrev z_lnsE_71 (a : BkS) : Prop := ∀ (i : Nat), i < (sB a).length -> (gD (sB a) i).st = (gD (sB a) i).st /\ (gD (sB a) i).lo = (gD (sB a) i).lo /\ (gD (sB a) i).hi = (gD (sB a) i).hi
abbrev z_lnsE_72 : Prop := ∀ (i : Nat), i < (0 : Nat) -> false = false
abbrev z_lnsE_73 : Prop := Int.ofNat (0 : Nat) = Int.ofNat (0 : Nat)
abbrev z_lnsE_74 : Prop := Int.ofNat (200000 : Nat) = Int.ofNat (200000 : Nat)
abbrev z_lnsE_75 (i : Nat) (a : BkS) (a1 : Nat) : Prop := i < (moK (sB a) a.st a1).length
abbrev z_lnsE_76 (a : BkS) (a1 : Nat) (i : Nat) : Ln := gD (moK (sB a) a.st a1) i
abbrev z_lnsE_77 (a : BkS) (a1 : Nat) (i : Nat) : Int := (z_lnsE_76 a a1 i).a0
abbrev z_lnsE_78 (i : Nat) : Bool := decide (i = (0 : Nat))
abbrev z_lnsE_79 (a : BkS) (a1 : Nat) (i : Nat) : Int := (z_lnsE_76 a a1 i).a1
abbrev z_lnsE_80 (a : BkS) (a1 : Nat) (i : Nat) : Int := (z_lnsE_76 a a1 i).b0
abbrev z_lnsE_81 (a : BkS) (a1 : Nat) (i : Nat) : Int := (z_lnsE_76 a a1 i).b1
abbrev z_lnsE_82 (a : Nat) (a1 : BkS) : Prop := (↑a : Int) < (↑(endsM (sB a1)).length : Int)
abbrev z_lnsE_83 (a : Nat) (a1 : BkS) : Bool := decide (z_lnsE_82 a a1)
abbrev z_lnsE_84 (a : Nat) : Prop := (0 : Int) <= (↑a : Int)
abbrev z_lnsE_85 (a : Nat) (a1 : BkS) : Prop := z_lnsE_84 a /\ z_lnsE_82 a a1
abbrev z_lnsE_86 : Prop := (4 : Nat) = (4 : Nat)
abbrev z_lnsE_87 : Prop := (0 : Nat) < (2 : Nat)
abbrev z_lnsE_88 (a : BkS) (a1 : Nat) : Nat := (moK (sB a) a.st a1).length + (2 : Nat)
abbrev z_lnsE_89 (a : BkS) (a1 : Nat) (a2 : Nat) : Prop := (moK (sB a) a.st a1).length = z_lnsE_88 a a2
abbrev z_lnsE_90 (a : BkS) : Prop := (endsM (sB a)).length = (endsM (sB a)).length
abbrev z_lnsE_91 (a : BkS) : Prop := ∀ (i : Nat), i < (endsM (sB a)).length -> (gD (endsM (sB a)) i).st = (gD (endsM (sB a)) i).st /\ (gD (endsM (sB a)) i).fl = (gD (endsM (sB a)) i).fl
abbrev z_lnsE_92 (a : BkS) : Prop := (↑(endsM (sB a)).length : Int) = (↑(endsM (sB a)).length : Int)
abbrev z_lnsE_93 (a : Nat) (a1 : Nat) : Prop := (↑a : Int) = IntKind.i64.wrap ((↑a1 : Int) + (1 : Int))
abbrev z_lnsE_94 (i : Nat) (a : BkS) (a1 : Nat) : Bool := decide (z_lnsE_75 i a a1)
abbrev z_lnsE_95 (i : Nat) (a : BkS) (a1 : Nat) : Bool := decide ((0 : Nat) + (i - (moK (sB a) a.st a1).length) = (0 : Nat))
abbrev z_lnsE_96 (a : BkS) (a1 : Nat) : Nat := (endsM (sB a)).length - a1
abbrev z_lnsE_97 (a : BkS) (a1 : Nat) (a2 : Nat) : Prop := z_lnsE_96 a a1 < z_lnsE_96 a a2
abbrev z_lnsE_98 : Prop := z_lnsE_48 /\ z_lnsE_72
abbrev z_lnsE_99 (a : BkS) (a1 : Nat) : Prop := (moM (sB a) a.st).length = (moK (sB a) a.st a1).length
abbrev z_lnsE_100 (i : Nat) (a : BkS) : Prop := i < (moM (sB a) a.st).length
abbrev z_lnsE_101 (a : BkS) (i : Nat) : Int := (gD (moM (sB a) a.st) i).a0
abbrev z_lnsE_102 (a : BkS) (i : Nat) : Int := (gD (moM (sB a) a.st) i).a1
abbrev z_lnsE_103 (a : BkS) (i : Nat) : Int := (gD (moM (sB a) a.st) i).b0
abbrev z_lnsE_104 (a : BkS) (i : Nat) : Int := (gD (moM (sB a) a.st) i).b1
abbrev z_lnsE_105 (a : Nat) (a1 : BkS) : Prop := a <= (moM (sB a1) a1.st).length /\ List.filter (okX (sB a1)) (List.take a (moM (sB a1) a1.st)) = []
abbrev z_lnsE_106 (a : Nat) (a1 : BkS) : Prop := (↑a : Int) < (↑(moM (sB a1) a1.st).length : Int)
abbrev z_lnsE_107 (a : Nat) : Nat := (0 : Nat) + a
abbrev z_lnsE_108 (a : BkS) (a1 : Nat) : Ln := gD (moM (sB a) a.st) (z_lnsE_107 a1)
abbrev z_lnsE_109 (a : BkS) (a1 : Nat) : Bool := riL (z_lnsE_108 a a1)
abbrev z_lnsE_110 (a : BkS) (a1 : Nat) : Int := (z_lnsE_108 a a1).a0
abbrev z_lnsE_111 (a : BkS) (a1 : Nat) : Int := (z_lnsE_108 a a1).a1
abbrev z_lnsE_112 (a : BkS) (a1 : Nat) : Int := (z_lnsE_108 a a1).b0
abbrev z_lnsE_113 (a : BkS) (a1 : Nat) : Int := (z_lnsE_108 a a1).b1
abbrev z_lnsE_114 (a : BkS) : Prop := z_lnsE_61 a < (4611686018427387904 : Nat)
abbrev z_lnsE_115 (g : Gau) (a : BkS) : Prop := List.Mem g (z_lnsE_60 a)
abbrev z_lnsE_116 : Prop := (0 : Nat) < (1 : Nat)
abbrev z_lnsE_117 : Prop := (1 : Nat) <= (1 : Nat) /\ (z_lnsE_116 -> z_lnsE_86)
abbrev z_lnsE_118 : Prop := (True /\ ((0 : Nat) < (0 : Nat) -> (0 : Nat) = (4 : Nat))) /\ z_lnsE_117 /\ (true = true -> z_lnsE_116) /\ (1 : Nat) <= (9223372036854775807 : Nat) /\ (32 : Nat) <= (140737488355328 : Nat)
abbrev z_lnsE_119 (a : LnK) : Prop := a.l.length = (1 : Nat)
abbrev z_lnsE_120 (a : BkS) : Prop := (moM (sB a) a.st).length = (moM (sB a) a.st).length
abbrev z_lnsE_121 (a : BkS) : Prop := (↑(moM (sB a) a.st).length : Int) = (↑(moM (sB a) a.st).length : Int)
abbrev z_lnsE_122 (a : BkS) : Prop := ∀ (i : Nat), z_lnsE_100 i a -> z_lnsE_101 a i = z_lnsE_101 a i /\ z_lnsE_102 a i = z_lnsE_102 a i /\ z_lnsE_103 a i = z_lnsE_103 a i /\ z_lnsE_104 a i = z_lnsE_104 a i
abbrev z_lnsE_123 (a : LnK) (a1 : BkS) : Prop := a.i < (moM (sB a1) a1.st).length
abbrev z_lnsE_124 (a : BkS) (a1 : LnK) : Nat := (moM (sB a) a.st).length - a1.i
abbrev z_lnsE_125 (a : BkS) (a1 : Nat) : Nat := (moM (sB a) a.st).length - a1
abbrev z_lnsE_126 (a : LnK) (a1 : BkS) : Prop := a.l = flM (sB a1) ++ List.filter (okX (sB a1)) (List.take (a.i + (1 : Nat)) (moM (sB a1) a1.st))
abbrev z_lnsE_127 (a : LnK) (a1 : BkS) (a2 : Nat) : Prop := z_lnsE_123 a a1 /\ z_lnsE_124 a1 a = z_lnsE_125 a1 a2 /\ z_lnsE_126 a a1
abbrev z_lnsE_128 (a : BkS) : Prop := z_lnsE_50 a /\ z_lnsE_51 a /\ z_lnsE_52 a /\ z_lnsE_53 a /\ z_lnsE_10 /\ z_lnsE_54 a /\ z_lnsE_55 a /\ z_lnsE_56 a /\ z_lnsE_70 a /\ z_lnsE_71 a /\ z_lnsE_120 a /\ z_lnsE_122 a
abbrev z_lnsE_129 (a : BkS) (a1 : Nat) : Prop := List.filter (okX (sB a)) (List.take (a1 + (1 : Nat)) (moM (sB a) a.st)) = []
abbrev z_lnsE_130 (a : Nat) (a1 : BkS) (a2 : Nat) : Prop := z_lnsE_100 a a1 /\ z_lnsE_125 a1 a = z_lnsE_125 a1 a2 /\ z_lnsE_129 a1 a
abbrev z_lnsE_131 (a : BkS) (a1 : Nat) (a2 : Nat) : Prop := z_lnsE_48 /\ z_lnsE_72 /\ z_lnsE_48 /\ z_lnsE_120 a /\ z_lnsE_121 a /\ z_lnsE_93 a1 a2 /\ z_lnsE_128 a
abbrev z_lnsE_132 (a : LnK) (a1 : LnK) : Prop := a.l.length = a1.l.length
abbrev z_lnsE_133 (a : BkS) (a1 : LnK) (a2 : LnK) : Prop := z_lnsE_50 a /\ z_lnsE_51 a /\ z_lnsE_52 a /\ z_lnsE_53 a /\ z_lnsE_10 /\ z_lnsE_54 a /\ z_lnsE_55 a /\ z_lnsE_56 a /\ z_lnsE_70 a /\ z_lnsE_71 a /\ z_lnsE_120 a /\
 z_lnsE_122 a /\ z_lnsE_132 a1 a2 /\ ∀ (i : Nat), i < a1.l.length -> (gD a1.l i).a0 = (gD a2.l i).a0 /\ (gD a1.l i).a1 = (gD a2.l i).a1 /\ (gD a1.l i).b0 = (gD a2.l i).b0 /\ (gD a1.l i).b1 = (gD a2.l i).b1
abbrev z_lnsE_134 (a : LnK) (a1 : LnK) (a2 : BkS) : Prop := z_lnsE_48 /\ z_lnsE_132 a a1 /\ z_lnsE_48 /\ z_lnsE_120 a2 /\ z_lnsE_121 a2 /\ (↑a.i : Int) = IntKind.i64.wrap ((↑a1.i : Int) + (1 : Int)) /\ z_lnsE_133 a2 a a1
abbrev z_lnsE_135 (a : LnK) (a1 : BkS) : Prop := a.i <= (moM (sB a1) a1.st).length /\ a.l = flM (sB a1) ++ List.filter (okX (sB a1)) (List.take a.i (moM (sB a1) a1.st))
abbrev z_lnsE_136 (a : BkS) (a1 : Nat) : Prop := ∀ (a_1 : LnK), z_lnsE_127 a_1 a a1 -> ∃ (a_3 : LnK), z_lnsE_134 a_3 a_1 a /\ z_lnsE_135 a_3 a /\ z_lnsE_124 a a_3 < z_lnsE_125 a a1
abbrev z_lnsE_137 (a : LnK) (a1 : BkS) : Prop := (↑a.i : Int) < (↑(moM (sB a1) a1.st).length : Int)
abbrev z_lnsE_138 (a : LnK) : Prop := (0 : Int) <= (↑a.i : Int)
abbrev z_lnsE_139 (a : LnK) : Nat := (0 : Nat) + a.i
abbrev z_lnsE_140 (a : BkS) (a1 : LnK) : Ln := gD (moM (sB a) a.st) (z_lnsE_139 a1)
abbrev z_lnsE_141 (a : BkS) (a1 : LnK) : Bool := riL (z_lnsE_140 a a1)
abbrev z_lnsE_142 (a : BkS) (a1 : LnK) : Int := (z_lnsE_140 a a1).a0
abbrev z_lnsE_143 (a : BkS) (a1 : LnK) : Int := (z_lnsE_140 a a1).a1
abbrev z_lnsE_144 (a : BkS) (a1 : LnK) : Int := (z_lnsE_140 a a1).b0
abbrev z_lnsE_145 (a : BkS) (a1 : LnK) : Int := (z_lnsE_140 a a1).b1
abbrev z_lnsE_146 : Prop := false = true -> z_lnsE_116
abbrev z_lnsE_147 (a : LnK) : Nat := a.l.length + (1 : Nat)
abbrev z_lnsE_148 (a : LnK) : Prop := (a.l.length = a.l.length /\ ((0 : Nat) < a.l.length -> z_lnsE_86)) /\ z_lnsE_117 /\ z_lnsE_146 /\ z_lnsE_147 a <= (9223372036854775807 : Nat) /\ z_lnsE_147 a * (32 : Nat) <= (140737488355328
 : Nat)
abbrev z_lnsE_149 (a : LnK) (a1 : LnK) : Prop := a.l.length = z_lnsE_147 a1
abbrev z_lnsE_150 (a : LnK) (a1 : LnK) : Prop := (↑a.i : Int) = (↑a1.i : Int)
abbrev z_lnsE_151 (i : Nat) (a : LnK) : Bool := decide (i < a.l.length)
abbrev z_lnsE_152 (a : LnK) (a1 : BkS) (a2 : LnK) : Prop := z_lnsE_123 a a1 /\ z_lnsE_124 a1 a = z_lnsE_124 a1 a2 /\ z_lnsE_126 a a1
abbrev z_lnsE_153 (a : BkS) (a1 : LnK) : Prop := ∀ (a_1 : LnK), z_lnsE_152 a_1 a a1 -> ∃ (a_3 : LnK), z_lnsE_134 a_3 a_1 a /\ z_lnsE_135 a_3 a /\ z_lnsE_124 a a_3 < z_lnsE_124 a a1
abbrev z_lnsE_154 (a : LnK) : Prop := (0 : Nat) + a.l.length <= a.l.length
abbrev z_lnsE_155 (a : LnK) (j : Nat) : Ln := gD a.l (z_lnsE_107 j)
abbrev z_lnsE_156 (a : LnK) (j : Nat) : Int := (z_lnsE_155 a j).a0
abbrev z_lnsE_157 (a : LnK) (j : Nat) : Int := (z_lnsE_155 a j).a1
abbrev z_lnsE_158 (a : LnK) (j : Nat) : Int := (z_lnsE_155 a j).b0
abbrev z_lnsE_159 (a : LnK) (j : Nat) : Int := (z_lnsE_155 a j).b1
abbrev z_lnsE_160 (a : BkS) : Prop := ∀ (a_1 : One), True -> bif bif decide ((↑(sB a).length : Int) > (0 : Int)) then (↑(0 : Nat) : Int) == (0 : Int) else false then z_lnsE_58 a else (z_lnsE_59 a /\ z_lnsE_59 a) /\
 (z_lnsE_62 a /\ z_lnsE_64 a /\ z_lnsE_61 a < (1073741824 : Nat) /\ True) /\ (∃ (a_3 : Nat), (z_lnsE_48 /\ z_lnsE_65 a a_3 /\ (endsM (sB a)).length = z_lnsE_67 a /\ (∀ (i : Nat), i < (endsM (sB a)).length -> (gD (endsM (sB a))
 i).st = (z_lnsE_68 a i).st /\ (gD (endsM (sB a)) i).fl = (z_lnsE_68 a i).fl) /\ (↑(endsM (sB a)).length : Int) = (↑(z_lnsE_67 a) : Int) /\ z_lnsE_69 a_3 /\ z_lnsE_50 a /\ z_lnsE_51 a /\ z_lnsE_52 a /\ z_lnsE_53 a /\ z_lnsE_10 /\
 z_lnsE_54 a /\ z_lnsE_55 a /\ z_lnsE_56 a /\ z_lnsE_70 a /\ z_lnsE_71 a /\ z_lnsE_48 /\ z_lnsE_72 /\ a.st = a.st /\ z_lnsE_73 /\ a.st = a.st /\ z_lnsE_74 /\ z_lnsE_65 a a_3 /\ ∀ (i : Nat), z_lnsE_75 i a a_3 -> (z_lnsE_77 a a_3 i =
 bif z_lnsE_78 i then (levM (Pt.mk a.st (0 : Int))).a0 else (levM (Pt.mk a.st (200000 : Int))).a0) /\ (z_lnsE_79 a a_3 i = bif z_lnsE_78 i then (levM (Pt.mk a.st (0 : Int))).a1 else (levM (Pt.mk a.st (200000 : Int))).a1) /\
 (z_lnsE_80 a a_3 i = bif z_lnsE_78 i then (levM (Pt.mk a.st (0 : Int))).b0 else (levM (Pt.mk a.st (200000 : Int))).b0) /\ z_lnsE_81 a a_3 i = bif z_lnsE_78 i then (levM (Pt.mk a.st (0 : Int))).b1 else (levM (Pt.mk a.st
 (200000 : Int))).b1) /\ a_3.le (endsM (sB a)).length) /\ ∀ (a_3 : Nat), a_3.le (endsM (sB a)).length -> bif z_lnsE_83 a_3 a then z_lnsE_85 a_3 a /\ (((moK (sB a) a.st a_3).length = (moK (sB a) a.st a_3).length /\ ((0 : Nat) <
 (moK (sB a) a.st a_3).length -> z_lnsE_86)) /\ ((2 : Nat) <= (2 : Nat) /\ (z_lnsE_87 -> z_lnsE_86)) /\ (false = true -> z_lnsE_87) /\ z_lnsE_88 a a_3 <= (9223372036854775807 : Nat) /\ z_lnsE_88 a a_3 * (32 : Nat) <=
 (140737488355328 : Nat)) /\ ∃ (a_5 : Nat), (z_lnsE_48 /\ z_lnsE_89 a a_5 a_3 /\ z_lnsE_90 a /\ z_lnsE_91 a /\ z_lnsE_92 a /\ z_lnsE_93 a_5 a_3 /\ z_lnsE_50 a /\ z_lnsE_51 a /\ z_lnsE_52 a /\ z_lnsE_53 a /\ z_lnsE_10 /\ z_lnsE_54 a /\
 z_lnsE_55 a /\ z_lnsE_56 a /\ z_lnsE_70 a /\ z_lnsE_71 a /\ z_lnsE_48 /\ z_lnsE_72 /\ a.st = a.st /\ z_lnsE_73 /\ a.st = a.st /\ z_lnsE_74 /\ z_lnsE_89 a a_5 a_3 /\ ∀ (i : Nat), z_lnsE_75 i a a_5 -> (z_lnsE_77 a a_5 i = bif
 z_lnsE_94 i a a_3 then z_lnsE_77 a a_3 i else bif z_lnsE_95 i a a_3 then a.st else (gD (endsM (sB a)) a_3).st) /\ (z_lnsE_79 a a_5 i = bif z_lnsE_94 i a a_3 then z_lnsE_79 a a_3 i else bif z_lnsE_95 i a a_3 then (0 : Int)
 else (gD (endsM (sB a)) a_3).fl) /\ (z_lnsE_80 a a_5 i = bif z_lnsE_94 i a a_3 then z_lnsE_80 a a_3 i else bif z_lnsE_95 i a a_3 then (gD (endsM (sB a)) a_3).st else a.st) /\ z_lnsE_81 a a_5 i = bif z_lnsE_94 i a a_3 then
 z_lnsE_81 a a_3 i else bif z_lnsE_95 i a a_3 then (gD (endsM (sB a)) a_3).fl else (200000 : Int)) /\ a_5.le (endsM (sB a)).length /\ z_lnsE_97 a a_5 a_3 else z_lnsE_98 /\ (∃ (a_5 : Nat), (z_lnsE_48 /\ z_lnsE_72 /\ z_lnsE_48 /\
 z_lnsE_99 a a_3 /\ (↑(moM (sB a) a.st).length : Int) = (↑(moK (sB a) a.st a_3).length : Int) /\ z_lnsE_69 a_5 /\ z_lnsE_50 a /\ z_lnsE_51 a /\ z_lnsE_52 a /\ z_lnsE_53 a /\ z_lnsE_10 /\ z_lnsE_54 a /\ z_lnsE_55 a /\ z_lnsE_56 a /\
 z_lnsE_70 a /\ z_lnsE_71 a /\ z_lnsE_99 a a_3 /\ ∀ (i : Nat), z_lnsE_100 i a -> z_lnsE_101 a i = z_lnsE_77 a a_3 i /\ z_lnsE_102 a i = z_lnsE_79 a a_3 i /\ z_lnsE_103 a i = z_lnsE_80 a a_3 i /\ z_lnsE_104 a i = z_lnsE_81 a a_3
 i) /\ z_lnsE_105 a_5 a) /\ (∀ (a_5 : Nat), z_lnsE_105 a_5 a -> bif decide (z_lnsE_106 a_5 a) then (((z_lnsE_84 a_5 /\ z_lnsE_106 a_5 a) /\ (z_lnsE_107 a_5).succ.le (moM (sB a) a.st).length) /\ (z_lnsE_109 a a_5 = true ->
 z_lnsE_62 a /\ z_lnsE_64 a /\ z_lnsE_110 a a_5 = z_lnsE_110 a a_5 /\ z_lnsE_111 a a_5 = z_lnsE_111 a a_5 /\ z_lnsE_112 a a_5 = z_lnsE_112 a a_5 /\ z_lnsE_113 a a_5 = z_lnsE_113 a a_5 /\ z_lnsE_114 a /\ ∀ (g : Gau), z_lnsE_115 g
 a -> ((0 : Int) <= z_lnsE_110 a a_5 /\ z_lnsE_110 a a_5 < z_lnsE_112 a a_5 /\ z_lnsE_112 a a_5 <= (2000 : Int) /\ (0 : Int) <= z_lnsE_111 a a_5 /\ z_lnsE_111 a a_5 <= z_lnsE_113 a a_5 /\ z_lnsE_113 a a_5 <= (200000 : Int)) /\
 z_lnsE_22 g) /\ bif bif z_lnsE_109 a a_5 then (z_lnsE_60 a).all λ (g : Gau) => passM (z_lnsE_108 a a_5) g else false then z_lnsE_118 /\ ∃ (a_7 : LnK), (z_lnsE_48 /\ z_lnsE_119 a_7 /\ z_lnsE_48 /\ z_lnsE_120 a /\ z_lnsE_121 a
 /\ (↑a_7.i : Int) = (↑a_5 : Int) /\ z_lnsE_50 a /\ z_lnsE_51 a /\ z_lnsE_52 a /\ z_lnsE_53 a /\ z_lnsE_10 /\ z_lnsE_54 a /\ z_lnsE_55 a /\ z_lnsE_56 a /\ z_lnsE_70 a /\ z_lnsE_71 a /\ z_lnsE_120 a /\ z_lnsE_122 a /\ z_lnsE_119 a_7 /\ ∀
 (i : Nat), i < a_7.l.length -> (gD a_7.l i).a0 = z_lnsE_110 a a_5 /\ (gD a_7.l i).a1 = z_lnsE_111 a a_5 /\ (gD a_7.l i).b0 = z_lnsE_112 a a_5 /\ (gD a_7.l i).b1 = z_lnsE_113 a a_5) /\ z_lnsE_127 a_7 a a_5 else ∃ (a_7 : Nat),
 (z_lnsE_48 /\ z_lnsE_72 /\ z_lnsE_48 /\ z_lnsE_120 a /\ z_lnsE_121 a /\ (↑a_7 : Int) = (↑a_5 : Int) /\ z_lnsE_128 a) /\ z_lnsE_130 a_7 a a_5) /\ (∀ (a_7 : Nat), z_lnsE_130 a_7 a a_5 -> ∃ (a_9 : Nat), z_lnsE_131 a a_9 a_7 /\
 z_lnsE_105 a_9 a /\ z_lnsE_125 a a_9 < z_lnsE_125 a a_5) /\ z_lnsE_136 a a_5 /\ z_lnsE_136 a a_5 else z_lnsE_58 a) /\ ∀ (a_5 : LnK), z_lnsE_135 a_5 a -> bif decide (z_lnsE_137 a_5 a) then (((z_lnsE_138 a_5 /\ z_lnsE_137 a_5 a)
 /\ (z_lnsE_139 a_5).succ.le (moM (sB a) a.st).length) /\ (z_lnsE_141 a a_5 = true -> z_lnsE_62 a /\ z_lnsE_64 a /\ z_lnsE_142 a a_5 = z_lnsE_142 a a_5 /\ z_lnsE_143 a a_5 = z_lnsE_143 a a_5 /\ z_lnsE_144 a a_5 = z_lnsE_144 a
 a_5 /\ z_lnsE_145 a a_5 = z_lnsE_145 a a_5 /\ z_lnsE_114 a /\ ∀ (g : Gau), z_lnsE_115 g a -> ((0 : Int) <= z_lnsE_142 a a_5 /\ z_lnsE_142 a a_5 < z_lnsE_144 a a_5 /\ z_lnsE_144 a a_5 <= (2000 : Int) /\ (0 : Int) <= z_lnsE_143 a
 a_5 /\ z_lnsE_143 a a_5 <= z_lnsE_145 a a_5 /\ z_lnsE_145 a a_5 <= (200000 : Int)) /\ z_lnsE_22 g) /\ bif bif z_lnsE_141 a a_5 then (z_lnsE_60 a).all λ (g : Gau) => passM (z_lnsE_140 a a_5) g else false then z_lnsE_148 a_5 /\
 ∃ (a_7 : LnK), (z_lnsE_48 /\ z_lnsE_149 a_7 a_5 /\ z_lnsE_48 /\ z_lnsE_120 a /\ z_lnsE_121 a /\ z_lnsE_150 a_7 a_5 /\ z_lnsE_50 a /\ z_lnsE_51 a /\ z_lnsE_52 a /\ z_lnsE_53 a /\ z_lnsE_10 /\ z_lnsE_54 a /\ z_lnsE_55 a /\ z_lnsE_56 a
 /\ z_lnsE_70 a /\ z_lnsE_71 a /\ z_lnsE_120 a /\ z_lnsE_122 a /\ z_lnsE_149 a_7 a_5 /\ ∀ (i : Nat), i < a_7.l.length -> ((gD a_7.l i).a0 = bif z_lnsE_151 i a_5 then (gD a_5.l i).a0 else z_lnsE_142 a a_5) /\ ((gD a_7.l i).a1 =
 bif z_lnsE_151 i a_5 then (gD a_5.l i).a1 else z_lnsE_143 a a_5) /\ ((gD a_7.l i).b0 = bif z_lnsE_151 i a_5 then (gD a_5.l i).b0 else z_lnsE_144 a a_5) /\ (gD a_7.l i).b1 = bif z_lnsE_151 i a_5 then (gD a_5.l i).b1 else
 z_lnsE_145 a a_5) /\ z_lnsE_152 a_7 a a_5 else ∃ (a_7 : LnK), (z_lnsE_48 /\ z_lnsE_132 a_7 a_5 /\ z_lnsE_48 /\ z_lnsE_120 a /\ z_lnsE_121 a /\ z_lnsE_150 a_7 a_5 /\ z_lnsE_133 a a_7 a_5) /\ z_lnsE_152 a_7 a a_5) /\ (∀ (a_7 :
 Nat), z_lnsE_100 a_7 a /\ z_lnsE_125 a a_7 = z_lnsE_124 a a_5 /\ z_lnsE_129 a a_7 -> ∃ (a_9 : Nat), z_lnsE_131 a a_9 a_7 /\ z_lnsE_105 a_9 a /\ z_lnsE_125 a a_9 < z_lnsE_124 a a_5) /\ z_lnsE_153 a a_5 /\ z_lnsE_153 a a_5 else
 (lnsM (sB a) a.st).length = a_5.l.length /\ z_lnsE_154 a_5 /\ (∀ (j : Nat), j < (lnsM (sB a) a.st).length -> (gD (lnsM (sB a) a.st) j).a0 = z_lnsE_156 a_5 j /\ (gD (lnsM (sB a) a.st) j).a1 = z_lnsE_157 a_5 j /\ (gD (lnsM (sB
 a) a.st) j).b0 = z_lnsE_158 a_5 j /\ (gD (lnsM (sB a) a.st) j).b1 = z_lnsE_159 a_5 j) /\ z_lnsE_57 a
abbrev z_lnsE_161 (a : BkS) : List Gau := rng (z_lnsE_41 a) λ (i : Nat) => z_lnsE_43 a i
abbrev z_lnsE_162 (a : BkS) : Nat := (z_lnsE_161 a).length
abbrev z_lnsE_163 (a : BkS) (i : Nat) : Gau := gD (z_lnsE_161 a) i
abbrev z_lnsE_164 (a : BkS) (i : Nat) : Int := (z_lnsE_163 a i).st
abbrev z_lnsE_165 (a : BkS) (i : Nat) : Int := (z_lnsE_163 a i).lo
abbrev z_lnsE_166 (a : BkS) (i : Nat) : Int := (z_lnsE_163 a i).hi
abbrev z_lnsE_167 (a : BkS) : List Gau := rng (z_lnsE_162 a) λ (i : Nat) => z_lnsE_163 a i
abbrev z_lnsE_168 (a : BkS) : Nat := (z_lnsE_167 a).length
abbrev z_lnsE_169 (a : BkS) (i : Nat) : Gau := gD (z_lnsE_167 a) i
abbrev z_lnsE_170 (a : BkS) : List Pt := endsM (z_lnsE_167 a)
abbrev z_lnsE_171 (a : BkS) : Nat := (z_lnsE_170 a).length
abbrev z_lnsE_172 (a : BkS) : Prop := (endsM (sB a)).length = z_lnsE_171 a
abbrev z_lnsE_173 (a : BkS) (i : Nat) : Pt := gD (z_lnsE_170 a) i
abbrev z_lnsE_174 (a : BkS) : Prop := ∀ (i : Nat), i < (endsM (sB a)).length -> (gD (endsM (sB a)) i).st = (z_lnsE_173 a i).st /\ (gD (endsM (sB a)) i).fl = (z_lnsE_173 a i).fl
abbrev z_lnsE_175 (a : BkS) : Prop := a.w.g.length = a.w.g.length
abbrev z_lnsE_176 (a : BkS) : Prop := ∀ (i : Nat), i < a.w.g.length -> (gD a.w.g i).st = (gD a.w.g i).st /\ (gD a.w.g i).lo = (gD a.w.g i).lo /\ (gD a.w.g i).hi = (gD a.w.g i).hi
abbrev z_lnsE_177 (a : BkS) : Prop := a.w.b.length = a.w.b.length
abbrev z_lnsE_178 (a : BkS) : Prop := ∀ (i : Nat), i < a.w.b.length -> gD a.w.b i = gD a.w.b i
abbrev z_lnsE_179 (a : BkS) : Prop := ∀ (n : Int), (fdM a.w n).length = (fdM a.w n).length /\ ∀ (i : Nat), z_lnsE_21 i a n -> (gD (fdM a.w n) i).a0 = (gD (fdM a.w n) i).a0 /\ (gD (fdM a.w n) i).a1 = (gD (fdM a.w n) i).a1 /\
 (gD (fdM a.w n) i).b0 = (gD (fdM a.w n) i).b0 /\ (gD (fdM a.w n) i).b1 = (gD (fdM a.w n) i).b1
abbrev z_lnsE_180 (a : Nat) (a1 : BkS) : Prop := a <= (endsM (sB a1)).length /\ List.filter (paM (sB a1)) (preO (sB a1) a) = []
abbrev z_lnsE_181 (a : LnJ) : Prop := (↑a.j : Int) = (0 : Int)
abbrev z_lnsE_182 (a : LnJ) : Prop := a.l.length = (1 : Nat)
abbrev z_lnsE_183 (a : LnJ) (a1 : BkS) : Prop := a.i < (endsM (sB a1)).length
abbrev z_lnsE_184 (a : LnJ) (a1 : BkS) : Prop := a.j <= (endsM (sB a1)).length
abbrev z_lnsE_185 (a : BkS) (a1 : LnJ) : Nat := (endsM (sB a)).length - a1.i
abbrev z_lnsE_186 (a : LnJ) (a1 : BkS) : Prop := a.l = List.filter (paM (sB a1)) (preI (sB a1) a.i a.j)
abbrev z_lnsE_187 (a : LnJ) (a1 : BkS) (a2 : Nat) : Prop := z_lnsE_183 a a1 /\ z_lnsE_184 a a1 /\ z_lnsE_185 a1 a = z_lnsE_96 a1 a2 /\ z_lnsE_186 a a1
abbrev z_lnsE_188 (a : IJ) (a1 : BkS) : Prop := a.i < (endsM (sB a1)).length
abbrev z_lnsE_189 (a : IJ) (a1 : BkS) : Prop := a.j <= (endsM (sB a1)).length
abbrev z_lnsE_190 (a : BkS) (a1 : IJ) : Nat := (endsM (sB a)).length - a1.i
abbrev z_lnsE_191 (a : BkS) (a1 : IJ) : Prop := List.filter (paM (sB a)) (preI (sB a) a1.i a1.j) = []
abbrev z_lnsE_192 (a : IJ) (a1 : BkS) (a2 : Nat) : Prop := z_lnsE_188 a a1 /\ z_lnsE_189 a a1 /\ z_lnsE_190 a1 a = z_lnsE_96 a1 a2 /\ z_lnsE_191 a1 a
abbrev z_lnsE_193 (a : IJ) (a1 : BkS) : Prop := (↑a.j : Int) < (↑(endsM (sB a1)).length : Int)
abbrev z_lnsE_194 (a : IJ) (a1 : BkS) : Bool := decide (z_lnsE_193 a a1)
abbrev z_lnsE_195 (a : IJ) (a1 : BkS) : Prop := (0 : Int) <= (↑a.j : Int) /\ z_lnsE_193 a a1
abbrev z_lnsE_196 (a : BkS) (a1 : IJ) : Ln := Ln.mk (gD (endsM (sB a)) a1.i).st (gD (endsM (sB a)) a1.i).fl (gD (endsM (sB a)) a1.j).st (gD (endsM (sB a)) a1.j).fl
abbrev z_lnsE_197 (a : BkS) (a1 : IJ) : Bool := riL (z_lnsE_196 a a1)
abbrev z_lnsE_198 (a : BkS) (a1 : IJ) : Bool := if true = true then z_lnsE_197 a a1 else !z_lnsE_197 a a1
abbrev z_lnsE_199 (a : BkS) (a1 : IJ) : Prop := z_lnsE_62 a /\ z_lnsE_64 a /\ (gD (endsM (sB a)) a1.i).st = (gD (endsM (sB a)) a1.i).st /\ (gD (endsM (sB a)) a1.i).fl = (gD (endsM (sB a)) a1.i).fl /\ (gD (endsM (sB a))
 a1.j).st = (gD (endsM (sB a)) a1.j).st /\ (gD (endsM (sB a)) a1.j).fl = (gD (endsM (sB a)) a1.j).fl /\ z_lnsE_114 a /\ ∀ (g : Gau), z_lnsE_115 g a -> ((0 : Int) <= (gD (endsM (sB a)) a1.i).st /\ (gD (endsM (sB a)) a1.i).st <
 (gD (endsM (sB a)) a1.j).st /\ (gD (endsM (sB a)) a1.j).st <= (2000 : Int) /\ (0 : Int) <= (gD (endsM (sB a)) a1.i).fl /\ (gD (endsM (sB a)) a1.i).fl <= (gD (endsM (sB a)) a1.j).fl /\ (gD (endsM (sB a)) a1.j).fl <= (200000 :
 Int)) /\ z_lnsE_22 g
abbrev z_lnsE_200 (a : BkS) (a1 : IJ) : Bool := (z_lnsE_60 a).all λ (g : Gau) => passM (z_lnsE_196 a a1) g
abbrev z_lnsE_201 (a : IJ) : Int := IntKind.i64.wrap ((↑a.j : Int) + (1 : Int))
abbrev z_lnsE_202 (a : BkS) (a1 : LnJ) (a2 : IJ) (l : Nat) : Prop := z_lnsE_90 a /\ z_lnsE_91 a /\ z_lnsE_92 a /\ (↑a1.j : Int) = z_lnsE_201 a2 /\ Fn.yield l = Fn.yield l /\ z_lnsE_90 a /\ z_lnsE_91 a /\ z_lnsE_90 a /\ z_lnsE_91
 a /\ z_lnsE_92 a /\ (↑a1.i : Int) = (↑a2.i : Int) /\ (gD (endsM (sB a)) a1.i).st = (gD (endsM (sB a)) a2.i).st /\ (gD (endsM (sB a)) a1.i).fl = (gD (endsM (sB a)) a2.i).fl /\ z_lnsE_175 a /\ z_lnsE_176 a /\ z_lnsE_177 a /\
 z_lnsE_178 a /\ z_lnsE_10 /\ z_lnsE_11 a /\ z_lnsE_12 a /\ z_lnsE_179 a /\ z_lnsE_70 a /\ z_lnsE_71 a /\ z_lnsE_48 /\ z_lnsE_182 a1 /\ z_lnsE_182 a1 /\ ∀ (i : Nat), i < a1.l.length -> (gD a1.l i).a0 = (gD (endsM (sB a)) a2.i).st /\
 (gD a1.l i).a1 = (gD (endsM (sB a)) a2.i).fl /\ (gD a1.l i).b0 = (gD (endsM (sB a)) a2.j).st /\ (gD a1.l i).b1 = (gD (endsM (sB a)) a2.j).fl
abbrev z_lnsE_203 (a : BkS) (a1 : LnJ) : Nat := (endsM (sB a)).length - a1.j
abbrev z_lnsE_204 (a : BkS) (a1 : IJ) : Nat := (endsM (sB a)).length - a1.j
abbrev z_lnsE_205 (a : BkS) (a1 : LnJ) (a2 : IJ) : Prop := z_lnsE_203 a a1 < z_lnsE_204 a a2
abbrev z_lnsE_206 (a : BkS) : Prop := z_lnsE_175 a /\ z_lnsE_176 a /\ z_lnsE_177 a /\ z_lnsE_178 a /\ z_lnsE_10 /\ z_lnsE_11 a /\ z_lnsE_12 a /\ z_lnsE_179 a /\ z_lnsE_70 a /\ z_lnsE_71 a /\ z_lnsE_98
abbrev z_lnsE_207 (a : BkS) (a1 : IJ) (a2 : IJ) (l : Nat) : Prop := z_lnsE_90 a /\ z_lnsE_91 a /\ z_lnsE_92 a /\ (↑a1.j : Int) = z_lnsE_201 a2 /\ Fn.yield l = Fn.yield l /\ z_lnsE_90 a /\ z_lnsE_91 a /\ z_lnsE_90 a /\ z_lnsE_91
 a /\ z_lnsE_92 a /\ (↑a1.i : Int) = (↑a2.i : Int) /\ (gD (endsM (sB a)) a1.i).st = (gD (endsM (sB a)) a2.i).st /\ (gD (endsM (sB a)) a1.i).fl = (gD (endsM (sB a)) a2.i).fl /\ z_lnsE_206 a
abbrev z_lnsE_208 (a : BkS) (a1 : IJ) (a2 : IJ) : Prop := z_lnsE_204 a a1 < z_lnsE_204 a a2
abbrev z_lnsE_209 (a : BkS) (a1 : IJ) (l : Nat) (a2 : Nat) : Prop := ∃ (a_1 : IJ), z_lnsE_207 a a_1 a1 l /\ z_lnsE_192 a_1 a a2 /\ z_lnsE_208 a a_1 a1
abbrev z_lnsE_210 (l : Nat) (a : BkS) (a1 : Nat) (a2 : IJ) : Prop := Fn.yield l = Fn.yield l /\ z_lnsE_90 a /\ z_lnsE_91 a /\ z_lnsE_90 a /\ z_lnsE_91 a /\ z_lnsE_92 a /\ (↑a1 : Int) = IntKind.i64.wrap ((↑a2.i : Int) + (1 :
 Int)) /\ z_lnsE_206 a
abbrev z_lnsE_211 (a : LnJ) (a1 : BkS) : Prop := (↑a.j : Int) < (↑(endsM (sB a1)).length : Int)
abbrev z_lnsE_212 (a : LnJ) (a1 : BkS) : Bool := decide (z_lnsE_211 a a1)
abbrev z_lnsE_213 (a : LnJ) (a1 : BkS) : Prop := (0 : Int) <= (↑a.j : Int) /\ z_lnsE_211 a a1
abbrev z_lnsE_214 (a : BkS) (a1 : LnJ) : Ln := Ln.mk (gD (endsM (sB a)) a1.i).st (gD (endsM (sB a)) a1.i).fl (gD (endsM (sB a)) a1.j).st (gD (endsM (sB a)) a1.j).fl
abbrev z_lnsE_215 (a : BkS) (a1 : LnJ) : Bool := riL (z_lnsE_214 a a1)
abbrev z_lnsE_216 (a : BkS) (a1 : LnJ) : Bool := if true = true then z_lnsE_215 a a1 else !z_lnsE_215 a a1
abbrev z_lnsE_217 (a : BkS) (a1 : LnJ) : Prop := z_lnsE_62 a /\ z_lnsE_64 a /\ (gD (endsM (sB a)) a1.i).st = (gD (endsM (sB a)) a1.i).st /\ (gD (endsM (sB a)) a1.i).fl = (gD (endsM (sB a)) a1.i).fl /\ (gD (endsM (sB a))
 a1.j).st = (gD (endsM (sB a)) a1.j).st /\ (gD (endsM (sB a)) a1.j).fl = (gD (endsM (sB a)) a1.j).fl /\ z_lnsE_114 a /\ ∀ (g : Gau), z_lnsE_115 g a -> ((0 : Int) <= (gD (endsM (sB a)) a1.i).st /\ (gD (endsM (sB a)) a1.i).st <
 (gD (endsM (sB a)) a1.j).st /\ (gD (endsM (sB a)) a1.j).st <= (2000 : Int) /\ (0 : Int) <= (gD (endsM (sB a)) a1.i).fl /\ (gD (endsM (sB a)) a1.i).fl <= (gD (endsM (sB a)) a1.j).fl /\ (gD (endsM (sB a)) a1.j).fl <= (200000 :
 Int)) /\ z_lnsE_22 g
abbrev z_lnsE_218 (a : BkS) (a1 : LnJ) : Bool := (z_lnsE_60 a).all λ (g : Gau) => passM (z_lnsE_214 a a1) g
abbrev z_lnsE_219 (a : LnJ) : Nat := a.l.length + (1 : Nat)
abbrev z_lnsE_220 (a : LnJ) : Prop := (a.l.length = a.l.length /\ ((0 : Nat) < a.l.length -> z_lnsE_86)) /\ z_lnsE_117 /\ z_lnsE_146 /\ z_lnsE_219 a <= (9223372036854775807 : Nat) /\ z_lnsE_219 a * (32 : Nat) <= (140737488355328
 : Nat)
abbrev z_lnsE_221 (a : LnJ) (a1 : LnJ) : Prop := (↑a.j : Int) = IntKind.i64.wrap ((↑a1.j : Int) + (1 : Int))
abbrev z_lnsE_222 (a : LnJ) (a1 : LnJ) : Prop := (↑a.i : Int) = (↑a1.i : Int)
abbrev z_lnsE_223 (a : BkS) (a1 : LnJ) (a2 : LnJ) : Prop := (gD (endsM (sB a)) a1.i).st = (gD (endsM (sB a)) a2.i).st
abbrev z_lnsE_224 (a : BkS) (a1 : LnJ) (a2 : LnJ) : Prop := (gD (endsM (sB a)) a1.i).fl = (gD (endsM (sB a)) a2.i).fl
abbrev z_lnsE_225 (a : LnJ) (a1 : LnJ) : Prop := a.l.length = z_lnsE_219 a1
abbrev z_lnsE_226 (i : Nat) (a : LnJ) : Bool := decide (i < a.l.length)
abbrev z_lnsE_227 (a : BkS) (a1 : LnJ) (a2 : LnJ) (l : Nat) : Prop := z_lnsE_90 a /\ z_lnsE_91 a /\ z_lnsE_92 a /\ z_lnsE_221 a1 a2 /\ Fn.yield l = Fn.yield l /\ z_lnsE_90 a /\ z_lnsE_91 a /\ z_lnsE_90 a /\ z_lnsE_91 a /\
 z_lnsE_92 a /\ z_lnsE_222 a1 a2 /\ z_lnsE_223 a a1 a2 /\ z_lnsE_224 a a1 a2 /\ z_lnsE_175 a /\ z_lnsE_176 a /\ z_lnsE_177 a /\ z_lnsE_178 a /\ z_lnsE_10 /\ z_lnsE_11 a /\ z_lnsE_12 a /\ z_lnsE_179 a /\ z_lnsE_70 a /\ z_lnsE_71 a /\
 z_lnsE_48 /\ z_lnsE_225 a1 a2 /\ z_lnsE_225 a1 a2 /\ ∀ (i : Nat), i < a1.l.length -> ((gD a1.l i).a0 = bif z_lnsE_226 i a2 then (gD a2.l i).a0 else (gD (endsM (sB a)) a2.i).st) /\ ((gD a1.l i).a1 = bif z_lnsE_226 i a2 then
 (gD a2.l i).a1 else (gD (endsM (sB a)) a2.i).fl) /\ ((gD a1.l i).b0 = bif z_lnsE_226 i a2 then (gD a2.l i).b0 else (gD (endsM (sB a)) a2.j).st) /\ (gD a1.l i).b1 = bif z_lnsE_226 i a2 then (gD a2.l i).b1 else (gD (endsM
 (sB a)) a2.j).fl
abbrev z_lnsE_228 (a : BkS) (a1 : LnJ) (a2 : LnJ) : Prop := z_lnsE_203 a a1 < z_lnsE_203 a a2
abbrev z_lnsE_229 (a : LnJ) (a1 : BkS) (a2 : Nat) (a3 : LnJ) : Prop := z_lnsE_187 a a1 a2 /\ z_lnsE_228 a1 a a3
abbrev z_lnsE_230 (a : LnJ) (a1 : LnJ) : Prop := a.l.length = a1.l.length
abbrev z_lnsE_231 (a : BkS) (a1 : LnJ) (a2 : LnJ) (l : Nat) : Prop := z_lnsE_90 a /\ z_lnsE_91 a /\ z_lnsE_92 a /\ z_lnsE_221 a1 a2 /\ Fn.yield l = Fn.yield l /\ z_lnsE_90 a /\ z_lnsE_91 a /\ z_lnsE_90 a /\ z_lnsE_91 a /\
 z_lnsE_92 a /\ z_lnsE_222 a1 a2 /\ z_lnsE_223 a a1 a2 /\ z_lnsE_224 a a1 a2 /\ z_lnsE_175 a /\ z_lnsE_176 a /\ z_lnsE_177 a /\ z_lnsE_178 a /\ z_lnsE_10 /\ z_lnsE_11 a /\ z_lnsE_12 a /\ z_lnsE_179 a /\ z_lnsE_70 a /\ z_lnsE_71 a /\
 z_lnsE_48 /\ z_lnsE_230 a1 a2 /\ z_lnsE_230 a1 a2 /\ ∀ (i : Nat), i < a1.l.length -> (gD a1.l i).a0 = (gD a2.l i).a0 /\ (gD a1.l i).a1 = (gD a2.l i).a1 /\ (gD a1.l i).b0 = (gD a2.l i).b0 /\ (gD a1.l i).b1 = (gD a2.l i).b1
abbrev z_lnsE_232 (a : BkS) (a1 : LnJ) (l : Nat) (a2 : Nat) : Prop := ∃ (a_1 : LnJ), z_lnsE_231 a a_1 a1 l /\ z_lnsE_229 a_1 a a2 a1
abbrev z_lnsE_233 (a : LnK) (a1 : LnJ) : Prop := a.l.length = a1.l.length
abbrev z_lnsE_234 (l : Nat) (a : BkS) (a1 : LnK) (a2 : LnJ) : Prop := Fn.yield l = Fn.yield l /\ z_lnsE_90 a /\ z_lnsE_91 a /\ z_lnsE_90 a /\ z_lnsE_91 a /\ z_lnsE_92 a /\ (↑a1.i : Int) = IntKind.i64.wrap ((↑a2.i : Int) + (1 :
 Int)) /\ z_lnsE_175 a /\ z_lnsE_176 a /\ z_lnsE_177 a /\ z_lnsE_178 a /\ z_lnsE_10 /\ z_lnsE_11 a /\ z_lnsE_12 a /\ z_lnsE_179 a /\ z_lnsE_70 a /\ z_lnsE_71 a /\ z_lnsE_48 /\ z_lnsE_233 a1 a2 /\ z_lnsE_233 a1 a2 /\ ∀ (i : Nat), i <
 a1.l.length -> (gD a1.l i).a0 = (gD a2.l i).a0 /\ (gD a1.l i).a1 = (gD a2.l i).a1 /\ (gD a1.l i).b0 = (gD a2.l i).b0 /\ (gD a1.l i).b1 = (gD a2.l i).b1
abbrev z_lnsE_235 (a : LnK) (a1 : BkS) : Prop := a.i <= (endsM (sB a1)).length /\ a.l = List.filter (paM (sB a1)) (preO (sB a1) a.i)
abbrev z_lnsE_236 (a : BkS) (a1 : LnK) : Nat := (endsM (sB a)).length - a1.i
abbrev z_lnsE_237 (a : BkS) (a1 : Nat) (l : Nat) : Prop := ∀ (a_1 : LnJ), z_lnsE_187 a_1 a a1 -> bif z_lnsE_212 a_1 a then z_lnsE_213 a_1 a /\ bif z_lnsE_216 a a_1 then l = l /\ z_lnsE_217 a a_1 /\ bif z_lnsE_218 a a_1 then
 z_lnsE_220 a_1 /\ ∃ (a_3 : LnJ), z_lnsE_227 a a_3 a_1 l /\ z_lnsE_229 a_3 a a1 a_1 else z_lnsE_232 a a_1 l a1 else z_lnsE_232 a a_1 l a1 else ∃ (a_3 : LnK), z_lnsE_234 l a a_3 a_1 /\ z_lnsE_235 a_3 a /\ z_lnsE_236 a a_3 <
 z_lnsE_96 a a1
abbrev z_lnsE_238 (a : BkS) (a1 : Nat) (l : Nat) : Prop := (∀ (a_1 : IJ), z_lnsE_192 a_1 a a1 -> bif z_lnsE_194 a_1 a then z_lnsE_195 a_1 a /\ bif z_lnsE_198 a a_1 then l = l /\ z_lnsE_199 a a_1 /\ bif z_lnsE_200 a a_1 then
 z_lnsE_118 /\ ∃ (a_3 : LnJ), z_lnsE_202 a a_3 a_1 l /\ z_lnsE_187 a_3 a a1 /\ z_lnsE_205 a a_3 a_1 else z_lnsE_209 a a_1 l a1 else z_lnsE_209 a a_1 l a1 else ∃ (a_3 : Nat), z_lnsE_210 l a a_3 a_1 /\ z_lnsE_180 a_3 a /\
 z_lnsE_97 a a_3 a1) /\ z_lnsE_237 a a1 l /\ z_lnsE_237 a a1 l
abbrev z_lnsE_239 (a : BkS) : Prop := (flM (sB a)).length = (0 : Nat)
abbrev z_lnsE_240 (a : LnK) (a1 : BkS) : Prop := (↑a.i : Int) < (↑(endsM (sB a1)).length : Int)
abbrev z_lnsE_241 (a : BkS) (a1 : LnK) : Int := (levM (gD (endsM (sB a)) a1.i)).a0
abbrev z_lnsE_242 (a : BkS) (a1 : LnK) : Int := (levM (gD (endsM (sB a)) a1.i)).a1
abbrev z_lnsE_243 (a : BkS) (a1 : LnK) : Int := (levM (gD (endsM (sB a)) a1.i)).b0
abbrev z_lnsE_244 (a : BkS) (a1 : LnK) : Int := (levM (gD (endsM (sB a)) a1.i)).b1
abbrev z_lnsE_245 (a : LnJ) (a1 : LnK) : Prop := (↑a.i : Int) = (↑a1.i : Int)
abbrev z_lnsE_246 (a : BkS) (a1 : LnJ) (a2 : LnK) : Prop := (gD (endsM (sB a)) a1.i).st = (gD (endsM (sB a)) a2.i).st
abbrev z_lnsE_247 (a : BkS) (a1 : LnJ) (a2 : LnK) : Prop := (gD (endsM (sB a)) a1.i).fl = (gD (endsM (sB a)) a2.i).fl
abbrev z_lnsE_248 (a : LnJ) (a1 : LnK) : Prop := a.l.length = z_lnsE_147 a1
abbrev z_lnsE_249 (a : LnJ) (a1 : BkS) (a2 : LnK) : Prop := z_lnsE_183 a a1 /\ z_lnsE_184 a a1 /\ z_lnsE_185 a1 a = z_lnsE_236 a1 a2 /\ z_lnsE_186 a a1
abbrev z_lnsE_250 (a : IJ) (a1 : BkS) (a2 : LnK) : Prop := z_lnsE_188 a a1 /\ z_lnsE_189 a a1 /\ z_lnsE_190 a1 a = z_lnsE_236 a1 a2 /\ z_lnsE_191 a1 a
abbrev z_lnsE_251 (a : BkS) (a1 : IJ) (l : Nat) (a2 : LnK) : Prop := ∃ (a_1 : IJ), z_lnsE_207 a a_1 a1 l /\ z_lnsE_250 a_1 a a2 /\ z_lnsE_208 a a_1 a1
abbrev z_lnsE_252 (a : LnJ) (a1 : BkS) (a2 : LnK) (a3 : LnJ) : Prop := z_lnsE_249 a a1 a2 /\ z_lnsE_228 a1 a a3
abbrev z_lnsE_253 (a : BkS) (a1 : LnJ) (l : Nat) (a2 : LnK) : Prop := ∃ (a_1 : LnJ), z_lnsE_231 a a_1 a1 l /\ z_lnsE_252 a_1 a a2 a1
abbrev z_lnsE_254 (a : BkS) (a1 : LnK) (l : Nat) : Prop := ∀ (a_1 : LnJ), z_lnsE_249 a_1 a a1 -> bif z_lnsE_212 a_1 a then z_lnsE_213 a_1 a /\ bif z_lnsE_216 a a_1 then l = l /\ z_lnsE_217 a a_1 /\ bif z_lnsE_218 a a_1 then
 z_lnsE_220 a_1 /\ ∃ (a_3 : LnJ), z_lnsE_227 a a_3 a_1 l /\ z_lnsE_252 a_3 a a1 a_1 else z_lnsE_253 a a_1 l a1 else z_lnsE_253 a a_1 l a1 else ∃ (a_3 : LnK), z_lnsE_234 l a a_3 a_1 /\ z_lnsE_235 a_3 a /\ z_lnsE_236 a a_3 <
 z_lnsE_236 a a1
abbrev z_lnsE_255 (a : BkS) (a1 : LnK) (l : Nat) : Prop := (∀ (a_1 : IJ), z_lnsE_250 a_1 a a1 -> bif z_lnsE_194 a_1 a then z_lnsE_195 a_1 a /\ bif z_lnsE_198 a a_1 then l = l /\ z_lnsE_199 a a_1 /\ bif z_lnsE_200 a a_1 then
 z_lnsE_118 /\ ∃ (a_3 : LnJ), z_lnsE_202 a a_3 a_1 l /\ z_lnsE_249 a_3 a a1 /\ z_lnsE_205 a a_3 a_1 else z_lnsE_251 a a_1 l a1 else z_lnsE_251 a a_1 l a1 else ∃ (a_3 : Nat), z_lnsE_210 l a a_3 a_1 /\ z_lnsE_180 a_3 a /\
 z_lnsE_96 a a_3 < z_lnsE_236 a a1) /\ z_lnsE_254 a a1 l /\ z_lnsE_254 a a1 l
abbrev z_lnsE_256 (a : LnJ) (a1 : LnK) : Prop := a.l.length = a1.l.length
abbrev z_lnsE_257 (n : Int) (a : BkS) : Bool := decide (n = a.k)
abbrev z_lnsE_258 (a : BkS) : Prop := ∀ (a_1 : One), True -> ∃ (a_3 : One), (a.st = a.st /\ z_lnsE_23 a /\ z_lnsE_29 a /\ z_lnsE_30 a /\ z_lnsE_33 a /\ z_lnsE_10 /\ (∀ (n : Int), (upB a.w a.k).has n = hasUp a.w.has a.k n) /\ (∀
 (n : Int), (upB a.w a.k).st n = stUp a.w.has a.w.st a.k n) /\ (∀ (n : Int), ((fdM (upB a.w a.k) n).length = bif z_lnsE_257 n a then (flM (sB a)).length else (fdM a.w n).length) /\ ∀ (i : Nat), z_lnsE_34 i a n -> (z_lnsE_36
 a n i = bif z_lnsE_257 n a then (gD (flM (sB a)) i).a0 else (gD (fdM a.w n) i).a0) /\ (z_lnsE_37 a n i = bif z_lnsE_257 n a then (gD (flM (sB a)) i).a1 else (gD (fdM a.w n) i).a1) /\ (z_lnsE_38 a n i = bif z_lnsE_257 n a
 then (gD (flM (sB a)) i).b0 else (gD (fdM a.w n) i).b0) /\ z_lnsE_39 a n i = bif z_lnsE_257 n a then (gD (flM (sB a)) i).b1 else (gD (fdM a.w n) i).b1) /\ z_lnsE_70 a /\ z_lnsE_71 a /\ (0 : Nat) = (flM (sB a)).length /\
 z_lnsE_48) /\ True
theorem vc_lnsE (a : BkS) : (V_lnsE a) = ((a.k = a.k /\ z_lnsE_1 a = a.w.g.length /\ (∀ (i : Nat), i < z_lnsE_1 a -> z_lnsE_3 a i = (gD a.w.g i).st /\ z_lnsE_4 a i = (gD a.w.g i).lo /\ z_lnsE_5 a i = (gD a.w.g i).hi) /\
 z_lnsE_7 a = a.w.b.length /\ (∀ (i : Nat), i < z_lnsE_7 a -> z_lnsE_8 a i = gD a.w.b i) /\ z_lnsE_10 /\ z_lnsE_11 a /\ z_lnsE_12 a /\ (∀ (n : Int), z_lnsE_15 a n = (fdM a.w n).length /\ ∀ (i : Nat), i < z_lnsE_15 a n ->
 z_lnsE_17 a n i = (gD (fdM a.w n) i).a0 /\ z_lnsE_18 a n i = (gD (fdM a.w n) i).a1 /\ z_lnsE_19 a n i = (gD (fdM a.w n) i).b0 /\ z_lnsE_20 a n i = (gD (fdM a.w n) i).b1) /\ a.w.g.length = z_lnsE_1 a /\ (∀ (i : Nat), i <
 a.w.g.length -> (gD a.w.g i).st = z_lnsE_3 a i /\ (gD a.w.g i).lo = z_lnsE_4 a i /\ (gD a.w.g i).hi = z_lnsE_5 a i) /\ a.w.b.length = z_lnsE_7 a /\ (∀ (i : Nat), i < a.w.b.length -> gD a.w.b i = z_lnsE_8 a i) /\ z_lnsE_10 /\
 z_lnsE_11 a /\ z_lnsE_12 a /\ (∀ (n : Int), (fdM a.w n).length = z_lnsE_15 a n /\ ∀ (i : Nat), z_lnsE_21 i a n -> (gD (fdM a.w n) i).a0 = z_lnsE_17 a n i /\ (gD (fdM a.w n) i).a1 = z_lnsE_18 a n i /\ (gD (fdM a.w n) i).b0 =
 z_lnsE_19 a n i /\ (gD (fdM a.w n) i).b1 = z_lnsE_20 a n i) /\ (z_lnsE_1 a <= (24 : Nat) /\ (∀ (x : Gau), List.Mem x (z_lnsE_0 a) -> z_lnsE_22 x) /\ z_lnsE_7 a <= (24 : Nat) /\ List.Pairwise (λ (x1 x2 : Int) => x1 < x2)
 (z_lnsE_6 a) /\ ∀ (x : Int), List.Mem x (z_lnsE_6 a) -> (1 : Int) <= x /\ x <= (2000 : Int)) /\ True) /\ z_lnsE_10 /\ bif a.w.has a.k then (∃ (a_1 : One), (a.st = a.st /\ z_lnsE_23 a /\ z_lnsE_29 a /\ z_lnsE_30 a /\ z_lnsE_33 a /\
 z_lnsE_10 /\ (∀ (n : Int), (upB a.w a.k).has n = a.w.has n) /\ (∀ (n : Int), (upB a.w a.k).st n = a.w.st n) /\ (∀ (n : Int), (fdM (upB a.w a.k) n).length = (fdM a.w n).length /\ ∀ (i : Nat), z_lnsE_34 i a n -> z_lnsE_36 a n i
 = (gD (fdM a.w n) i).a0 /\ z_lnsE_37 a n i = (gD (fdM a.w n) i).a1 /\ z_lnsE_38 a n i = (gD (fdM a.w n) i).b0 /\ z_lnsE_39 a n i = (gD (fdM a.w n) i).b1) /\ z_lnsE_42 a /\ z_lnsE_47 a /\ (0 : Nat) = (fdM a.w a.k).length /\
 z_lnsE_48) /\ True) /\ z_lnsE_160 a else (((z_lnsE_162 a = z_lnsE_41 a /\ ∀ (i : Nat), i < z_lnsE_162 a -> z_lnsE_164 a i = z_lnsE_44 a i /\ z_lnsE_165 a i = z_lnsE_45 a i /\ z_lnsE_166 a i = z_lnsE_46 a i) /\ ∀ (l : Nat),
 (z_lnsE_168 a = z_lnsE_162 a /\ (∀ (i : Nat), i < z_lnsE_168 a -> (z_lnsE_169 a i).st = z_lnsE_164 a i /\ (z_lnsE_169 a i).lo = z_lnsE_165 a i /\ (z_lnsE_169 a i).hi = z_lnsE_166 a i) /\ z_lnsE_168 a < (1073741824 : Nat) /\
 True) /\ (∃ (a_1 : Nat), (Fn.yield l = Fn.yield l /\ z_lnsE_172 a /\ z_lnsE_174 a /\ z_lnsE_172 a /\ z_lnsE_174 a /\ (↑(endsM (sB a)).length : Int) = (↑(z_lnsE_171 a) : Int) /\ z_lnsE_69 a_1 /\ z_lnsE_175 a /\ z_lnsE_176 a /\
 z_lnsE_177 a /\ z_lnsE_178 a /\ z_lnsE_10 /\ z_lnsE_11 a /\ z_lnsE_12 a /\ z_lnsE_179 a /\ z_lnsE_42 a /\ z_lnsE_47 a /\ z_lnsE_98) /\ z_lnsE_180 a_1 a) /\ (∀ (a_1 : Nat), z_lnsE_180 a_1 a -> bif z_lnsE_83 a_1 a then z_lnsE_85 a_1
 a /\ ((0 : Int) <= (gD (endsM (sB a)) a_1).st /\ (gD (endsM (sB a)) a_1).st <= (2000 : Int)) /\ l = l /\ (z_lnsE_62 a /\ z_lnsE_64 a /\ (levM (gD (endsM (sB a)) a_1)).a0 = (levM (gD (endsM (sB a)) a_1)).a0 /\ (levM (gD (endsM (sB
 a)) a_1)).a1 = (levM (gD (endsM (sB a)) a_1)).a1 /\ (levM (gD (endsM (sB a)) a_1)).b0 = (levM (gD (endsM (sB a)) a_1)).b0 /\ (levM (gD (endsM (sB a)) a_1)).b1 = (levM (gD (endsM (sB a)) a_1)).b1 /\ z_lnsE_114 a /\ ∀ (g :
 Gau), z_lnsE_115 g a -> ((0 : Int) <= (levM (gD (endsM (sB a)) a_1)).a0 /\ (levM (gD (endsM (sB a)) a_1)).a0 < (levM (gD (endsM (sB a)) a_1)).b0 /\ (levM (gD (endsM (sB a)) a_1)).b0 <= (2000 : Int) /\ (0 : Int) <= (levM (gD
 (endsM (sB a)) a_1)).a1 /\ (levM (gD (endsM (sB a)) a_1)).a1 <= (levM (gD (endsM (sB a)) a_1)).b1 /\ (levM (gD (endsM (sB a)) a_1)).b1 <= (200000 : Int)) /\ z_lnsE_22 g) /\ bif (z_lnsE_60 a).all λ (g : Gau) => passM (levM
 (gD (endsM (sB a)) a_1)) g then z_lnsE_118 /\ (∃ (a_3 : LnJ), (z_lnsE_90 a /\ z_lnsE_91 a /\ z_lnsE_92 a /\ z_lnsE_181 a_3 /\ Fn.yield l = Fn.yield l /\ z_lnsE_90 a /\ z_lnsE_91 a /\ z_lnsE_90 a /\ z_lnsE_91 a /\ z_lnsE_92 a /\
 (↑a_3.i : Int) = (↑a_1 : Int) /\ (gD (endsM (sB a)) a_3.i).st = (gD (endsM (sB a)) a_1).st /\ (gD (endsM (sB a)) a_3.i).fl = (gD (endsM (sB a)) a_1).fl /\ z_lnsE_175 a /\ z_lnsE_176 a /\ z_lnsE_177 a /\ z_lnsE_178 a /\
 z_lnsE_10 /\ z_lnsE_11 a /\ z_lnsE_12 a /\ z_lnsE_179 a /\ z_lnsE_70 a /\ z_lnsE_71 a /\ z_lnsE_48 /\ z_lnsE_182 a_3 /\ z_lnsE_182 a_3 /\ ∀ (i : Nat), i < a_3.l.length -> (gD a_3.l i).a0 = (levM (gD (endsM (sB a)) a_1)).a0 /\ (gD
 a_3.l i).a1 = (levM (gD (endsM (sB a)) a_1)).a1 /\ (gD a_3.l i).b0 = (levM (gD (endsM (sB a)) a_1)).b0 /\ (gD a_3.l i).b1 = (levM (gD (endsM (sB a)) a_1)).b1) /\ z_lnsE_187 a_3 a a_1) /\ z_lnsE_238 a a_1 l else (∃ (a_3 :
 IJ), (z_lnsE_90 a /\ z_lnsE_91 a /\ z_lnsE_92 a /\ (↑a_3.j : Int) = (0 : Int) /\ Fn.yield l = Fn.yield l /\ z_lnsE_90 a /\ z_lnsE_91 a /\ z_lnsE_90 a /\ z_lnsE_91 a /\ z_lnsE_92 a /\ (↑a_3.i : Int) = (↑a_1 : Int) /\ (gD (endsM (sB
 a)) a_3.i).st = (gD (endsM (sB a)) a_1).st /\ (gD (endsM (sB a)) a_3.i).fl = (gD (endsM (sB a)) a_1).fl /\ z_lnsE_206 a) /\ z_lnsE_192 a_3 a a_1) /\ z_lnsE_238 a a_1 l else ∃ (a_3 : One), (a.k = a.k /\ a.st = a.st /\
 z_lnsE_175 a /\ z_lnsE_176 a /\ z_lnsE_177 a /\ z_lnsE_178 a /\ z_lnsE_10 /\ z_lnsE_11 a /\ z_lnsE_12 a /\ z_lnsE_179 a /\ z_lnsE_70 a /\ z_lnsE_71 a /\ z_lnsE_239 a /\ z_lnsE_239 a) /\ True) /\ ∀ (a_1 : LnK), z_lnsE_235 a_1 a -> bif
 decide (z_lnsE_240 a_1 a) then (z_lnsE_138 a_1 /\ z_lnsE_240 a_1 a) /\ ((0 : Int) <= (gD (endsM (sB a)) a_1.i).st /\ (gD (endsM (sB a)) a_1.i).st <= (2000 : Int)) /\ l = l /\ (z_lnsE_62 a /\ z_lnsE_64 a /\ z_lnsE_241 a a_1 =
 z_lnsE_241 a a_1 /\ z_lnsE_242 a a_1 = z_lnsE_242 a a_1 /\ z_lnsE_243 a a_1 = z_lnsE_243 a a_1 /\ z_lnsE_244 a a_1 = z_lnsE_244 a a_1 /\ z_lnsE_114 a /\ ∀ (g : Gau), z_lnsE_115 g a -> ((0 : Int) <= z_lnsE_241 a a_1 /\ z_lnsE_241
 a a_1 < z_lnsE_243 a a_1 /\ z_lnsE_243 a a_1 <= (2000 : Int) /\ (0 : Int) <= z_lnsE_242 a a_1 /\ z_lnsE_242 a a_1 <= z_lnsE_244 a a_1 /\ z_lnsE_244 a a_1 <= (200000 : Int)) /\ z_lnsE_22 g) /\ bif (z_lnsE_60 a).all λ (g : Gau) =>
 passM (levM (gD (endsM (sB a)) a_1.i)) g then z_lnsE_148 a_1 /\ (∃ (a_3 : LnJ), (z_lnsE_90 a /\ z_lnsE_91 a /\ z_lnsE_92 a /\ z_lnsE_181 a_3 /\ Fn.yield l = Fn.yield l /\ z_lnsE_90 a /\ z_lnsE_91 a /\ z_lnsE_90 a /\ z_lnsE_91 a /\
 z_lnsE_92 a /\ z_lnsE_245 a_3 a_1 /\ z_lnsE_246 a a_3 a_1 /\ z_lnsE_247 a a_3 a_1 /\ z_lnsE_175 a /\ z_lnsE_176 a /\ z_lnsE_177 a /\ z_lnsE_178 a /\ z_lnsE_10 /\ z_lnsE_11 a /\ z_lnsE_12 a /\ z_lnsE_179 a /\ z_lnsE_70 a /\ z_lnsE_71
 a /\ z_lnsE_48 /\ z_lnsE_248 a_3 a_1 /\ z_lnsE_248 a_3 a_1 /\ ∀ (i : Nat), i < a_3.l.length -> ((gD a_3.l i).a0 = bif z_lnsE_151 i a_1 then (gD a_1.l i).a0 else z_lnsE_241 a a_1) /\ ((gD a_3.l i).a1 = bif z_lnsE_151 i a_1 then
 (gD a_1.l i).a1 else z_lnsE_242 a a_1) /\ ((gD a_3.l i).b0 = bif z_lnsE_151 i a_1 then (gD a_1.l i).b0 else z_lnsE_243 a a_1) /\ (gD a_3.l i).b1 = bif z_lnsE_151 i a_1 then (gD a_1.l i).b1 else z_lnsE_244 a a_1) /\
 z_lnsE_249 a_3 a a_1) /\ z_lnsE_255 a a_1 l else (∃ (a_3 : LnJ), (z_lnsE_90 a /\ z_lnsE_91 a /\ z_lnsE_92 a /\ z_lnsE_181 a_3 /\ Fn.yield l = Fn.yield l /\ z_lnsE_90 a /\ z_lnsE_91 a /\ z_lnsE_90 a /\ z_lnsE_91 a /\ z_lnsE_92 a /\
 z_lnsE_245 a_3 a_1 /\ z_lnsE_246 a a_3 a_1 /\ z_lnsE_247 a a_3 a_1 /\ z_lnsE_175 a /\ z_lnsE_176 a /\ z_lnsE_177 a /\ z_lnsE_178 a /\ z_lnsE_10 /\ z_lnsE_11 a /\ z_lnsE_12 a /\ z_lnsE_179 a /\ z_lnsE_70 a /\ z_lnsE_71 a /\ z_lnsE_48
 /\ z_lnsE_256 a_3 a_1 /\ z_lnsE_256 a_3 a_1 /\ ∀ (i : Nat), i < a_3.l.length -> (gD a_3.l i).a0 = (gD a_1.l i).a0 /\ (gD a_3.l i).a1 = (gD a_1.l i).a1 /\ (gD a_3.l i).b0 = (gD a_1.l i).b0 /\ (gD a_3.l i).b1 = (gD a_1.l i).b1) /\
 z_lnsE_249 a_3 a a_1) /\ z_lnsE_255 a a_1 l else ∃ (a_3 : One), (a.k = a.k /\ a.st = a.st /\ z_lnsE_175 a /\ z_lnsE_176 a /\ z_lnsE_177 a /\ z_lnsE_178 a /\ z_lnsE_10 /\ z_lnsE_11 a /\ z_lnsE_12 a /\ z_lnsE_179 a /\ z_lnsE_70 a /\
 z_lnsE_71 a /\ (flM (sB a)).length = a_1.l.length /\ z_lnsE_154 a_1 /\ ∀ (j : Nat), j < (flM (sB a)).length -> (gD (flM (sB a)) j).a0 = z_lnsE_156 a_1 j /\ (gD (flM (sB a)) j).a1 = z_lnsE_157 a_1 j /\ (gD (flM (sB a)) j).b0 =
 z_lnsE_158 a_1 j /\ (gD (flM (sB a)) j).b1 = z_lnsE_159 a_1 j) /\ True) /\ z_lnsE_258 a /\ z_lnsE_258 a) /\ z_lnsE_160 a) := by kernel_rfl
theorem bk_eta (w : Bk) : Bk.mk w.g w.b w.has w.st = w := rfl
theorem snocL (l : List Ln) (p : Ln) (i : Nat) (hi : i < (l ++ [p]).length) : ((gD (l ++ [p]) i).a0 = bif decide (i < l.length) then (gD l i).a0 else p.a0) /\ ((gD (l ++ [p]) i).a1 = bif decide (i < l.length) then (gD l i).a1 else p.a1) /\ ((gD (l ++ [p]) i).b0 = bif decide (i < l.length) then (gD l i).b0 else p.b0) /\ (gD (l ++ [p]) i).b1 = bif decide (i < l.length) then (gD l i).b1 else p.b1 := by
 rw [gD_snoc _ _ (by simpa using hi)]
 cases decide (i < l.length) <;> exact ⟨rfl, rfl, rfl, rfl⟩
theorem oneL (p : Ln) (i : Nat) (hi : i < [p].length) : (gD [p] i).a0 = p.a0 /\ (gD [p] i).a1 = p.a1 /\ (gD [p] i).b0 = p.b0 /\ (gD [p] i).b1 = p.b1 := by
 have : i = 0 := by have hj : i < 1 := hi; omega
 subst this; exact ⟨rfl, rfl, rfl, rfl⟩
theorem fil_go {s : List Gau} {i j : Nat} (h : j < (endsM s).length) (h1 : riL (lnM (gD (endsM s) i) (gD (endsM s) j)) = true) (h2 : paM s (lnM (gD (endsM s) i) (gD (endsM s) j)) = true) : (preI s i (j + 1)).filter (paM s) = (preI s i j).filter (paM s) ++ [lnM (gD (endsM s) i) (gD (endsM s) j)] := by
 rw [preI_succ h, if_pos h1, List.filter_append, List.filter_cons_of_pos h2]; rfl
theorem fil_no {s : List Gau} {i j : Nat} (h : j < (endsM s).length) (h1 : riL (lnM (gD (endsM s) i) (gD (endsM s) j)) = true) (h2 : paM s (lnM (gD (endsM s) i) (gD (endsM s) j)) = false) : (preI s i (j + 1)).filter (paM s) = (preI s i j).filter (paM s) := by
 rw [preI_succ h, if_pos h1, List.filter_append, List.filter_cons_of_neg (by rw [h2]; simp)]; simp
theorem fil_bad {s : List Gau} {i j : Nat} (h : j < (endsM s).length) (h1 : riL (lnM (gD (endsM s) i) (gD (endsM s) j)) = false) : (preI s i (j + 1)).filter (paM s) = (preI s i j).filter (paM s) := by
 rw [preI_succ h, if_neg (by rw [h1]; simp), List.append_nil]
theorem fil_lev {s : List Gau} {i : Nat} : (preI s i 0).filter (paM s) = (preO s i).filter (paM s) ++ if paM s (levM (gD (endsM s) i)) = true then [levM (gD (endsM s) i)] else [] := by
 unfold preI
 rw [List.filter_append]
 congr 1
 simp [List.filter_cons]
theorem fil_len {s : List Gau} {i j : Nat} (hN : (endsM s).length <= 48) : ((preI s i j).filter (paM s)).length <= 10000 := by
 refine Nat.le_trans (List.length_filter_le _ _) ?_
 have h1 : ∀ a : Pt, (blk (endsM s) a).length <= 49 := λ a => by
  unfold blk
  have := List.length_filter_le riL ((endsM s).map (lnM a))
  simp only [List.length_cons, List.length_map] at *; omega
 have h2 : ∀ l : List Pt, l.length <= 48 -> (l.flatMap (blk (endsM s))).length <= l.length * 49 := λ l _ => by
  induction l with
  | nil => simp
  | cons a l ih =>
   rw [List.flatMap_cons, List.length_append, List.length_cons]
   have := h1 a; have := ih (by simp at *; omega); omega
 unfold preI preO
 have h3 := h2 ((endsM s).take i) (by simp; omega)
 have h4 := List.length_filter_le riL (((endsM s).take j).map (lnM (gD (endsM s) i)))
 simp only [List.length_append, List.length_cons, List.length_map, List.length_take] at *
 omega
theorem ls_inN {s : List Gau} {q : Nat} (hs : s.length <= 24) (hN : (endsM s).length <= 48) (hg : ∀ g ∈ s, okG g) (x : IJ) (hx : x.i < (endsM s).length /\ x.j <= (endsM s).length /\ (endsM s).length - x.i = q /\ (preI s x.i x.j).filter (paM s) = []) :
  ((x.j : Int) < (endsM s).length -> (0 <= (x.j : Int) /\ (x.j : Int) < (endsM s).length) /\ (riL ⟨(gD (endsM s) x.i).st, (gD (endsM s) x.i).fl, (gD (endsM s) x.j).st, (gD (endsM s) x.j).fl⟩ = true -> (s.length < 4611686018427387904 /\ ∀ g : Gau, List.Mem g s -> okL ⟨(gD (endsM s) x.i).st, (gD (endsM s) x.i).fl, (gD (endsM s) x.j).st, (gD (endsM s) x.j).fl⟩ /\ okG g) /\ ((s.all λ g => passM ⟨(gD (endsM s) x.i).st, (gD (endsM s) x.i).fl, (gD (endsM s) x.j).st, (gD (endsM s) x.j).fl⟩ g) = true -> ((0 < 0 -> 0 = 4) /\ 0 < 1 /\ 0 < 1 /\ 0 < 9223372036854775807 /\ 31 < 140737488355328) /\ ∃ y : LnJ, ((y.j : Int) = IntKind.i64.wrap ((x.j : Int) + 1) /\ (y.i : Int) = x.i /\ (gD (endsM s) y.i).st = (gD (endsM s) x.i).st /\ (gD (endsM s) y.i).fl = (gD (endsM s) x.i).fl /\ y.l.length = 1 /\ y.l.length = 1 /\ ∀ i : Nat, i < y.l.length -> (gD y.l i).a0 = (gD (endsM s) x.i).st /\ (gD y.l i).a1 = (gD (endsM s) x.i).fl /\ (gD y.l i).b0 = (gD (endsM s) x.j).st /\ (gD y.l i).b1 = (gD (endsM s) x.j).fl) /\ (y.i < (endsM s).length /\ y.j <= (endsM s).length /\ (endsM s).length - y.i = q /\ y.l = (preI s y.i y.j).filter (paM s)) /\ (endsM s).length - y.j < (endsM s).length - x.j) /\ ((s.all λ g => passM ⟨(gD (endsM s) x.i).st, (gD (endsM s) x.i).fl, (gD (endsM s) x.j).st, (gD (endsM s) x.j).fl⟩ g) = false -> ∃ y : IJ, ((y.j : Int) = IntKind.i64.wrap ((x.j : Int) + 1) /\ (y.i : Int) = x.i /\ (gD (endsM s) y.i).st = (gD (endsM s) x.i).st /\ (gD (endsM s) y.i).fl = (gD (endsM s) x.i).fl) /\ (y.i < (endsM s).length /\ y.j <= (endsM s).length /\ (endsM s).length - y.i = q /\ (preI s y.i y.j).filter (paM s) = []) /\ (endsM s).length - y.j < (endsM s).length - x.j)) /\ (riL ⟨(gD (endsM s) x.i).st, (gD (endsM s) x.i).fl, (gD (endsM s) x.j).st, (gD (endsM s) x.j).fl⟩ = false -> ∃ y : IJ, ((y.j : Int) = IntKind.i64.wrap ((x.j : Int) + 1) /\ (y.i : Int) = x.i /\ (gD (endsM s) y.i).st = (gD (endsM s) x.i).st /\ (gD (endsM s) y.i).fl = (gD (endsM s) x.i).fl) /\ (y.i < (endsM s).length /\ y.j <= (endsM s).length /\ (endsM s).length - y.i = q /\ (preI s y.i y.j).filter (paM s) = []) /\ (endsM s).length - y.j < (endsM s).length - x.j)) /\ (¬(x.j : Int) < (endsM s).length -> ∃ y : Nat, (y : Int) = IntKind.i64.wrap ((x.i : Int) + 1) /\ (y <= (endsM s).length /\ (preO s y).filter (paM s) = []) /\ (endsM s).length - y < q) := by
 obtain ⟨h1, h2, h3, h4⟩ := hx
 refine ⟨λ hj => ?_, λ hj => ⟨x.i + 1, (wsucc (by omega)).symm, ⟨by omega, ?_⟩, by omega⟩⟩
 ·have hj' : x.j < (endsM s).length := Int.ofNat_lt.1 hj
  have step : (preI s x.i (x.j + 1)).filter (paM s) = [] -> ∃ y : IJ, ((y.j : Int) = IntKind.i64.wrap ((x.j : Int) + 1) /\ (y.i : Int) = x.i /\ (gD (endsM s) y.i).st = (gD (endsM s) x.i).st /\ (gD (endsM s) y.i).fl = (gD (endsM s) x.i).fl) /\ (y.i < (endsM s).length /\ y.j <= (endsM s).length /\ (endsM s).length - y.i = q /\ (preI s y.i y.j).filter (paM s) = []) /\ (endsM s).length - y.j < (endsM s).length - x.j := λ h => ⟨⟨x.i, x.j + 1⟩, ⟨(wsucc (by omega)).symm, rfl, rfl, rfl⟩, ⟨h1, hj', h3, h⟩, by show (endsM s).length - (x.j + 1) < _; omega⟩
  refine ⟨⟨by omega, hj⟩, λ hr => ⟨⟨by omega, λ g hgs => ⟨riL_ok.1 hr, hg g hgs⟩⟩, λ hp => ⟨⟨by omega, by omega, by omega, by omega, by omega⟩, ⟨x.i, x.j + 1, [lnM (gD (endsM s) x.i) (gD (endsM s) x.j)]⟩, ⟨(wsucc (by omega)).symm, rfl, rfl, rfl, rfl, rfl, oneL _⟩, ⟨h1, hj', h3, ?_⟩, by show (endsM s).length - (x.j + 1) < _; omega⟩, λ hp => step ?_⟩, λ hr => step ?_⟩
  ·show _ = (preI s x.i (x.j + 1)).filter (paM s)
   rw [fil_go hj' hr hp, h4]; rfl
  ·rw [fil_no hj' hr hp, h4]
  ·rw [fil_bad hj' hr, h4]
 ·have : x.j = (endsM s).length := by omega
  rw [this] at h4; rw [<- preI_all h1]; exact h4
theorem ls_inO {s : List Gau} {q : Nat} (hs : s.length <= 24) (hN : (endsM s).length <= 48) (hg : ∀ g ∈ s, okG g) (x : LnJ) (hx : x.i < (endsM s).length /\ x.j <= (endsM s).length /\ (endsM s).length - x.i = q /\ x.l = (preI s x.i x.j).filter (paM s)) :
  ((x.j : Int) < (endsM s).length -> (0 <= (x.j : Int) /\ (x.j : Int) < (endsM s).length) /\ (riL ⟨(gD (endsM s) x.i).st, (gD (endsM s) x.i).fl, (gD (endsM s) x.j).st, (gD (endsM s) x.j).fl⟩ = true -> (s.length < 4611686018427387904 /\ ∀ g : Gau, List.Mem g s -> okL ⟨(gD (endsM s) x.i).st, (gD (endsM s) x.i).fl, (gD (endsM s) x.j).st, (gD (endsM s) x.j).fl⟩ /\ okG g) /\ ((s.all λ g => passM ⟨(gD (endsM s) x.i).st, (gD (endsM s) x.i).fl, (gD (endsM s) x.j).st, (gD (endsM s) x.j).fl⟩ g) = true -> (0 < 1 /\ (false = true -> 0 < 1) /\ x.l.length < 9223372036854775807 /\ (x.l.length + 1) * 32 <= 140737488355328) /\ ∃ y : LnJ, ((y.j : Int) = IntKind.i64.wrap ((x.j : Int) + 1) /\ (y.i : Int) = x.i /\ (gD (endsM s) y.i).st = (gD (endsM s) x.i).st /\ (gD (endsM s) y.i).fl = (gD (endsM s) x.i).fl /\ y.l.length = x.l.length + 1 /\ y.l.length = x.l.length + 1 /\ ∀ i : Nat, i < y.l.length -> ((gD y.l i).a0 = bif decide (i < x.l.length) then (gD x.l i).a0 else (gD (endsM s) x.i).st) /\ ((gD y.l i).a1 = bif decide (i < x.l.length) then (gD x.l i).a1 else (gD (endsM s) x.i).fl) /\ ((gD y.l i).b0 = bif decide (i < x.l.length) then (gD x.l i).b0 else (gD (endsM s) x.j).st) /\ (gD y.l i).b1 = bif decide (i < x.l.length) then (gD x.l i).b1 else (gD (endsM s) x.j).fl) /\ (y.i < (endsM s).length /\ y.j <= (endsM s).length /\ (endsM s).length - y.i = q /\ y.l = (preI s y.i y.j).filter (paM s)) /\ (endsM s).length - y.j < (endsM s).length - x.j) /\ ((s.all λ g => passM ⟨(gD (endsM s) x.i).st, (gD (endsM s) x.i).fl, (gD (endsM s) x.j).st, (gD (endsM s) x.j).fl⟩ g) = false -> (∃ y : LnJ, ((y.j : Int) = IntKind.i64.wrap ((x.j : Int) + 1) /\ (y.i : Int) = x.i /\ (gD (endsM s) y.i).st = (gD (endsM s) x.i).st /\ (gD (endsM s) y.i).fl = (gD (endsM s) x.i).fl /\ y.l.length = x.l.length /\ y.l.length = x.l.length /\ ∀ i : Nat, i < y.l.length -> (gD y.l i).a0 = (gD x.l i).a0 /\ (gD y.l i).a1 = (gD x.l i).a1 /\ (gD y.l i).b0 = (gD x.l i).b0 /\ (gD y.l i).b1 = (gD x.l i).b1) /\ (y.i < (endsM s).length /\ y.j <= (endsM s).length /\ (endsM s).length - y.i = q /\ y.l = (preI s y.i y.j).filter (paM s)) /\ (endsM s).length - y.j < (endsM s).length - x.j))) /\ (riL ⟨(gD (endsM s) x.i).st, (gD (endsM s) x.i).fl, (gD (endsM s) x.j).st, (gD (endsM s) x.j).fl⟩ = false -> (∃ y : LnJ, ((y.j : Int) = IntKind.i64.wrap ((x.j : Int) + 1) /\ (y.i : Int) = x.i /\ (gD (endsM s) y.i).st = (gD (endsM s) x.i).st /\ (gD (endsM s) y.i).fl = (gD (endsM s) x.i).fl /\ y.l.length = x.l.length /\ y.l.length = x.l.length /\ ∀ i : Nat, i < y.l.length -> (gD y.l i).a0 = (gD x.l i).a0 /\ (gD y.l i).a1 = (gD x.l i).a1 /\ (gD y.l i).b0 = (gD x.l i).b0 /\ (gD y.l i).b1 = (gD x.l i).b1) /\ (y.i < (endsM s).length /\ y.j <= (endsM s).length /\ (endsM s).length - y.i = q /\ y.l = (preI s y.i y.j).filter (paM s)) /\ (endsM s).length - y.j < (endsM s).length - x.j))) /\ (¬(x.j : Int) < (endsM s).length -> ∃ y : LnK, ((y.i : Int) = IntKind.i64.wrap ((x.i : Int) + 1) /\ y.l.length = x.l.length /\ y.l.length = x.l.length /\ ∀ i : Nat, i < y.l.length -> (gD y.l i).a0 = (gD x.l i).a0 /\ (gD y.l i).a1 = (gD x.l i).a1 /\ (gD y.l i).b0 = (gD x.l i).b0 /\ (gD y.l i).b1 = (gD x.l i).b1) /\ (y.i <= (endsM s).length /\ y.l = (preO s y.i).filter (paM s)) /\ (endsM s).length - y.i < q) := by
 obtain ⟨h1, h2, h3, h4⟩ := hx
 refine ⟨λ hj => ?_, λ hj => ⟨⟨x.i + 1, x.l⟩, ⟨(wsucc (by omega)).symm, rfl, rfl, λ _ _ => ⟨rfl, rfl, rfl, rfl⟩⟩, ⟨h1, ?_⟩, by show (endsM s).length - (x.i + 1) < _; omega⟩⟩
 ·have hj' : x.j < (endsM s).length := Int.ofNat_lt.1 hj
  have hl : x.l.length <= 10000 := h4 ▸ fil_len hN
  have step : (preI s x.i (x.j + 1)).filter (paM s) = x.l -> (∃ y : LnJ, ((y.j : Int) = IntKind.i64.wrap ((x.j : Int) + 1) /\ (y.i : Int) = x.i /\ (gD (endsM s) y.i).st = (gD (endsM s) x.i).st /\ (gD (endsM s) y.i).fl = (gD (endsM s) x.i).fl /\ y.l.length = x.l.length /\ y.l.length = x.l.length /\ ∀ i : Nat, i < y.l.length -> (gD y.l i).a0 = (gD x.l i).a0 /\ (gD y.l i).a1 = (gD x.l i).a1 /\ (gD y.l i).b0 = (gD x.l i).b0 /\ (gD y.l i).b1 = (gD x.l i).b1) /\ (y.i < (endsM s).length /\ y.j <= (endsM s).length /\ (endsM s).length - y.i = q /\ y.l = (preI s y.i y.j).filter (paM s)) /\ (endsM s).length - y.j < (endsM s).length - x.j) := λ h => ⟨⟨x.i, x.j + 1, x.l⟩, ⟨(wsucc (by omega)).symm, rfl, rfl, rfl, rfl, rfl, λ _ _ => ⟨rfl, rfl, rfl, rfl⟩⟩, ⟨h1, hj', h3, h.symm⟩, by show (endsM s).length - (x.j + 1) < _; omega⟩
  refine ⟨⟨by omega, hj⟩, λ hr => ⟨⟨by omega, λ g hgs => ⟨riL_ok.1 hr, hg g hgs⟩⟩, λ hp => ⟨⟨by omega, λ _ => by omega, by omega, by omega⟩, ⟨x.i, x.j + 1, x.l ++ [lnM (gD (endsM s) x.i) (gD (endsM s) x.j)]⟩, ⟨(wsucc (by omega)).symm, rfl, rfl, rfl, by simp, by simp, snocL _ _⟩, ⟨h1, hj', h3, ?_⟩, by show (endsM s).length - (x.j + 1) < _; omega⟩, λ hp => step ?_⟩, λ hr => step ?_⟩
  ·show _ = (preI s x.i (x.j + 1)).filter (paM s)
   rw [fil_go hj' hr hp, <- h4]
  ·rw [fil_no hj' hr hp, h4]
  ·rw [fil_bad hj' hr, h4]
 ·have : x.j = (endsM s).length := by omega
  rw [this] at h4; show x.l = (preO s (x.i + 1)).filter (paM s); rw [<- preI_all h1]; exact h4
theorem gD_app {α : Type} [Inhabited α] (l m : List α) (j : Nat) : gD (l ++ m) j = bif decide (j < l.length) then gD l j else gD m (j - l.length) := by
 rw [gD_append]; by_cases h : j < l.length <;> simp [h]
theorem gD_two {α : Type} [Inhabited α] (x y : α) {j : Nat} (h : j < 2) : gD [x, y] j = bif decide (j = 0) then x else y := by
 match j, h with
 | 0, _ => rfl
 | 1, _ => rfl
theorem moK_succ {s : List Gau} {t : Int} {i : Nat} (h : i < (endsM s).length) : moK s t (i + 1) = moK s t i ++ [lnM ⟨t, 0⟩ (gD (endsM s) i), lnM (gD (endsM s) i) ⟨t, 200000⟩] := by
 unfold moK; rw [take_snoc h, List.flatMap_append, <- List.append_assoc]; simp
theorem moK_len {s : List Gau} {t : Int} : ∀ i : Nat, i <= (endsM s).length -> (moK s t i).length = 2 + 2 * i
 | 0, _ => rfl
 | i + 1, h => by rw [moK_succ (by omega), List.length_append, moK_len i (by omega)]; simp; omega
theorem moK_all {s : List Gau} {t : Int} : moK s t (endsM s).length = moM s t := by unfold moK moM; rw [List.take_length]
theorem ls_14e (s : List Gau) (t : Int) : ∃ i : Nat, ((moK s t i).length = 2 /\ (i : Int) = 0 /\ (moK s t i).length = 2 /\ ∀ j : Nat, j < (moK s t i).length -> ((gD (moK s t i) j).a0 = bif decide (j = 0) then (levM ⟨t, 0⟩).a0 else (levM ⟨t, 200000⟩).a0) /\ ((gD (moK s t i) j).a1 = bif decide (j = 0) then (levM ⟨t, 0⟩).a1 else (levM ⟨t, 200000⟩).a1) /\ ((gD (moK s t i) j).b0 = bif decide (j = 0) then (levM ⟨t, 0⟩).b0 else (levM ⟨t, 200000⟩).b0) /\ (gD (moK s t i) j).b1 = bif decide (j = 0) then (levM ⟨t, 0⟩).b1 else (levM ⟨t, 200000⟩).b1) /\ i <= (endsM s).length := by
 refine ⟨0, ⟨rfl, rfl, rfl, λ j hj => ?_⟩, Nat.zero_le _⟩
 have hj : j < 2 := hj
 rw [show moK s t 0 = [levM ⟨t, 0⟩, levM ⟨t, 200000⟩] from rfl, gD_two _ _ hj]
 cases decide (j = 0) <;> exact ⟨rfl, rfl, rfl, rfl⟩
theorem ls_14s {s : List Gau} {t : Int} (hN : (endsM s).length <= 48) {i : Nat} (h : (i : Int) < (endsM s).length) : (0 <= (i : Int) /\ (i : Int) < (endsM s).length) /\ (1 < 2 /\ (false = true -> 0 < 2) /\ (moK s t i).length + 1 < 9223372036854775807 /\ ((moK s t i).length + 2) * 32 <= 140737488355328) /\ ∃ k : Nat, ((moK s t k).length = (moK s t i).length + 2 /\ (k : Int) = IntKind.i64.wrap ((i : Int) + 1) /\ (moK s t k).length = (moK s t i).length + 2 /\ ∀ j : Nat, j < (moK s t k).length -> ((gD (moK s t k) j).a0 = bif decide (j < (moK s t i).length) then (gD (moK s t i) j).a0 else bif decide (j - (moK s t i).length = 0) then t else (gD (endsM s) i).st) /\ ((gD (moK s t k) j).a1 = bif decide (j < (moK s t i).length) then (gD (moK s t i) j).a1 else bif decide (j - (moK s t i).length = 0) then 0 else (gD (endsM s) i).fl) /\ ((gD (moK s t k) j).b0 = bif decide (j < (moK s t i).length) then (gD (moK s t i) j).b0 else bif decide (j - (moK s t i).length = 0) then (gD (endsM s) i).st else t) /\ (gD (moK s t k) j).b1 = bif decide (j < (moK s t i).length) then (gD (moK s t i) j).b1 else bif decide (j - (moK s t i).length = 0) then (gD (endsM s) i).fl else 200000) /\ k <= (endsM s).length /\ (endsM s).length - k < (endsM s).length - i := by
 have h' : i < (endsM s).length := Int.ofNat_lt.1 h
 have hl := moK_len (s := s) (t := t) i (by omega)
 refine ⟨⟨by omega, h⟩, ⟨by omega, λ _ => by omega, by omega, by omega⟩, i + 1, ⟨?_, (wsucc (by omega)).symm, ?_, λ j hj => ?_⟩, h', by omega⟩
 ·rw [moK_succ h', List.length_append]; rfl
 ·rw [moK_succ h', List.length_append]; rfl
 ·rw [moK_succ h'] at hj ⊢
  rw [gD_app]
  by_cases h1 : j < (moK s t i).length
  ·simp [h1]
  ·rw [gD_two _ _ (by simp at hj; omega)]
   simp only [h1, decide_false, cond_false]
   cases decide (j - (moK s t i).length = 0) <;> exact ⟨rfl, rfl, rfl, rfl⟩
theorem fil_mo {s : List Gau} {l : List Ln} {i : Nat} (h : i < l.length) : (l.take (i + 1)).filter (okX s) = (l.take i).filter (okX s) ++ if okX s (gD l i) = true then [gD l i] else [] := by
 rw [take_snoc h, List.filter_append]; simp [List.filter_cons]
theorem moM_len {s : List Gau} {t : Int} : (moM s t).length = 2 + 2 * (endsM s).length := by rw [<- moK_all, moK_len _ (Nat.le_refl _)]
theorem ls_20s {s : List Gau} {t : Int} {f : List Ln} (hs : s.length <= 24) (hN : (endsM s).length <= 48) (hg : ∀ g ∈ s, okG g) (hf : f.length <= 10000) {x : LnK} (hx : x.i <= (moM s t).length /\ x.l = f ++ ((moM s t).take x.i).filter (okX s)) (h : (x.i : Int) < (moM s t).length) :
  ((0 <= (x.i : Int) /\ (x.i : Int) < (moM s t).length) /\ x.i < (moM s t).length) /\ (riL (gD (moM s t) x.i) = true -> (s.length < 4611686018427387904 /\ ∀ g : Gau, List.Mem g s -> okL (gD (moM s t) x.i) /\ okG g)) /\ ((bif riL (gD (moM s t) x.i) then s.all λ g => passM (gD (moM s t) x.i) g else false) = true -> (0 < 1 /\ (false = true -> 0 < 1) /\ x.l.length < 9223372036854775807 /\ (x.l.length + 1) * 32 <= 140737488355328) /\ ∃ y : LnK, (y.l.length = x.l.length + 1 /\ (y.i : Int) = x.i /\ y.l.length = x.l.length + 1 /\ ∀ j : Nat, j < y.l.length -> ((gD y.l j).a0 = bif decide (j < x.l.length) then (gD x.l j).a0 else (gD (moM s t) x.i).a0) /\ ((gD y.l j).a1 = bif decide (j < x.l.length) then (gD x.l j).a1 else (gD (moM s t) x.i).a1) /\ ((gD y.l j).b0 = bif decide (j < x.l.length) then (gD x.l j).b0 else (gD (moM s t) x.i).b0) /\ (gD y.l j).b1 = bif decide (j < x.l.length) then (gD x.l j).b1 else (gD (moM s t) x.i).b1) /\ (y.i < (moM s t).length /\ (moM s t).length - y.i = (moM s t).length - x.i /\ y.l = f ++ (((moM s t).take (y.i + 1)).filter (okX s)))) /\ ((bif riL (gD (moM s t) x.i) then s.all λ g => passM (gD (moM s t) x.i) g else false) = false -> ∃ y : LnK, (y.l.length = x.l.length /\ (y.i : Int) = x.i /\ y.l.length = x.l.length /\ ∀ j : Nat, j < y.l.length -> (gD y.l j).a0 = (gD x.l j).a0 /\ (gD y.l j).a1 = (gD x.l j).a1 /\ (gD y.l j).b0 = (gD x.l j).b0 /\ (gD y.l j).b1 = (gD x.l j).b1) /\ (y.i < (moM s t).length /\ (moM s t).length - y.i = (moM s t).length - x.i /\ y.l = f ++ (((moM s t).take (y.i + 1)).filter (okX s)))) := by
 obtain ⟨h1, h2⟩ := hx
 have h' : x.i < (moM s t).length := Int.ofNat_lt.1 h
 have hl : x.l.length <= 10098 := by
  rw [h2, List.length_append]
  have := List.length_filter_le (okX s) ((moM s t).take x.i)
  rw [List.length_take] at this
  have := moM_len (s := s) (t := t)
  omega
 refine ⟨⟨⟨by omega, h⟩, h'⟩, λ hr => ⟨by omega, λ g hgs => ⟨riL_ok.1 hr, hg g hgs⟩⟩, λ hp => ⟨⟨by omega, λ _ => by omega, by omega, by omega⟩, ⟨x.i, x.l ++ [(gD (moM s t) x.i)]⟩, ⟨by simp, rfl, by simp, snocL _ _⟩, h', rfl, ?_⟩, λ hp => ⟨⟨x.i, x.l⟩, ⟨rfl, rfl, rfl, λ _ _ => ⟨rfl, rfl, rfl, rfl⟩⟩, h', rfl, ?_⟩⟩
 ·show x.l ++ _ = _
  rw [fil_mo h', if_pos (show okX s (gD (moM s t) x.i) = true from hp), <- List.append_assoc, <- h2]
 ·show x.l = _
  rw [fil_mo h', if_neg (by intro hq; have hq : (bif riL (gD (moM s t) x.i) then s.all λ g => passM (gD (moM s t) x.i) g else false) = true := hq; rw [hp] at hq; cases hq), List.append_nil, <- h2]
theorem ls_20c {s : List Gau} {t : Int} {f : List Ln} (hN : (endsM s).length <= 48) {m : Nat} (x : LnK) (hx : x.i < (moM s t).length /\ (moM s t).length - x.i = m /\ x.l = f ++ ((moM s t).take (x.i + 1)).filter (okX s)) : ∃ y : LnK, (y.l.length = x.l.length /\ (y.i : Int) = IntKind.i64.wrap ((x.i : Int) + 1) /\ y.l.length = x.l.length /\ ∀ j : Nat, j < y.l.length -> (gD y.l j).a0 = (gD x.l j).a0 /\ (gD y.l j).a1 = (gD x.l j).a1 /\ (gD y.l j).b0 = (gD x.l j).b0 /\ (gD y.l j).b1 = (gD x.l j).b1) /\ (y.i <= (moM s t).length /\ y.l = f ++ ((moM s t).take y.i).filter (okX s)) /\ (moM s t).length - y.i < m := by
 have := moM_len (s := s) (t := t)
 exact ⟨⟨x.i + 1, x.l⟩, ⟨rfl, (wsucc (by omega)).symm, rfl, λ _ _ => ⟨rfl, rfl, rfl, rfl⟩⟩, ⟨hx.1, hx.2.2⟩, by show (moM s t).length - (x.i + 1) < m; omega⟩
theorem upB_same {w : Bk} {k : Int} (h : w.has k = true) : upB w k = w := by
 obtain ⟨g, b, has, st⟩ := w
 have h : has k = true := h
 unfold upB; congr 1
 ·funext n; unfold hasUp; by_cases e : n = k
  ·subst e; simp [h]
  ·simp [e]
 ·funext n; unfold stUp; simp [h]
theorem fdM_up {w : Bk} {k n : Int} : fdM (upB w k) n = bif decide (n = k) then flM (insM w k) else fdM w n := by
 unfold fdM
 show (bif hasUp w.has k n then flM (insM w n) else []) = _
 unfold hasUp
 by_cases e : n = k
 ·subst e; simp
 ·simp [e]
theorem fdM_is {w : Bk} {k : Int} (h : w.has k = true) : fdM w k = flM (insM w k) := by unfold fdM; rw [h]; rfl
theorem fil_nil {s : List Gau} (h : s = []) : flM s = [] := by subst h; rfl
theorem flM_len {s : List Gau} (hN : (endsM s).length <= 48) : (flM s).length <= 10000 := by
 unfold flM
 rw [<- preO_all]
 by_cases h : (endsM s).length = 0
 ·rw [h]; simp [preO]
 ·obtain ⟨i, hi⟩ : ∃ i, (endsM s).length = i + 1 := ⟨(endsM s).length - 1, by omega⟩
  rw [hi, <- preI_all (i := i) (by omega)]; exact fil_len hN
theorem fit_up {w : Bk} {k : Int} : ∀ n : Int, ((fdM (upB w k) n).length = bif decide (n = k) then (flM (insM w k)).length else (fdM w n).length) /\ ∀ j : Nat, j < (fdM (upB w k) n).length -> ((gD (fdM (upB w k) n) j).a0 = bif decide (n = k) then (gD (flM (insM w k)) j).a0 else (gD (fdM w n) j).a0) /\ ((gD (fdM (upB w k) n) j).a1 = bif decide (n = k) then (gD (flM (insM w k)) j).a1 else (gD (fdM w n) j).a1) /\ ((gD (fdM (upB w k) n) j).b0 = bif decide (n = k) then (gD (flM (insM w k)) j).b0 else (gD (fdM w n) j).b0) /\ (gD (fdM (upB w k) n) j).b1 = bif decide (n = k) then (gD (flM (insM w k)) j).b1 else (gD (fdM w n) j).b1 := λ n => by
 rw [fdM_up]; cases decide (n = k) <;> exact ⟨rfl, λ _ _ => ⟨rfl, rfl, rfl, rfl⟩⟩
theorem sB_ok {a : BkS} (h : bkOk a.w.g a.w.b) : (sB a).length <= 24 /\ (endsM (sB a)).length <= 48 /\ ∀ g ∈ sB a, okG g := by
 have h1 : (sB a).length <= 24 := Nat.le_trans (List.length_filter_le _ _) h.1
 have he := endsK_len (s := sB a) (sB a).length (Nat.le_refl _)
 unfold endsK at he; rw [List.take_length] at he
 exact ⟨h1, by unfold endsM; omega, λ g hg => h.2.1 g (List.mem_filter.1 hg).1⟩
theorem lnsM_c {s : List Gau} {t : Int} : lnsM s t = bif (bif decide ((s.length : Int) > 0) then ((flM s).length : Int) == 0 else false) then [] else flM s ++ (moM s t).filter (okX s) := by
 unfold lnsM
 rw [show decide (0 < s.length) = decide ((s.length : Int) > 0) by simp [Int.natCast_pos], show decide ((flM s).length = 0) = (((flM s).length : Int) == 0) by rw [Bool.eq_iff_iff]; simp]
theorem p_lnsN (a : BkS) (h : bkOk a.w.g a.w.b) (h2 : 0 <= a.st /\ a.st <= 2000) (h3 : sB a ≠ []) : V_lnsN a := by
 rw [vc_lnsN]; delta z_lnsN_0 z_lnsN_1 z_lnsN_2 z_lnsN_3 z_lnsN_4 z_lnsN_5 z_lnsN_6 z_lnsN_7 z_lnsN_8 z_lnsN_9 z_lnsN_10 z_lnsN_11 z_lnsN_12 z_lnsN_13 z_lnsN_14 z_lnsN_15 z_lnsN_16 z_lnsN_17 z_lnsN_18 z_lnsN_19 z_lnsN_20 z_lnsN_21 z_lnsN_22 z_lnsN_23 z_lnsN_24 z_lnsN_25 z_lnsN_26 z_lnsN_27 z_lnsN_28 z_lnsN_29 z_lnsN_30 z_lnsN_31 z_lnsN_32 z_lnsN_33 z_lnsN_34 z_lnsN_35 z_lnsN_36 z_lnsN_37 z_lnsN_38 z_lnsN_39 z_lnsN_40 z_lnsN_41 z_lnsN_42 z_lnsN_43 z_lnsN_44 z_lnsN_45 z_lnsN_46 z_lnsN_47 z_lnsN_48 z_lnsN_49 z_lnsN_50 z_lnsN_51 z_lnsN_52 z_lnsN_53 z_lnsN_54 z_lnsN_55 z_lnsN_56 z_lnsN_57 z_lnsN_58 z_lnsN_59 z_lnsN_60 z_lnsN_61 z_lnsN_62 z_lnsN_63 z_lnsN_64 z_lnsN_65 z_lnsN_66 z_lnsN_67 z_lnsN_68 z_lnsN_69 z_lnsN_70 z_lnsN_71 z_lnsN_72 z_lnsN_73 z_lnsN_74 z_lnsN_75 z_lnsN_76 z_lnsN_77 z_lnsN_78 z_lnsN_79 z_lnsN_80 z_lnsN_81 z_lnsN_82 z_lnsN_83 z_lnsN_84 z_lnsN_85 z_lnsN_86 z_lnsN_87 z_lnsN_88 z_lnsN_89 z_lnsN_90 z_lnsN_91 z_lnsN_92 z_lnsN_93 z_lnsN_94 z_lnsN_95 z_lnsN_96 z_lnsN_97 z_lnsN_98 z_lnsN_99 z_lnsN_100 z_lnsN_101 z_lnsN_102 z_lnsN_103 z_lnsN_104 z_lnsN_105 z_lnsN_106 z_lnsN_107 z_lnsN_108 z_lnsN_109 z_lnsN_110 z_lnsN_111 z_lnsN_112 z_lnsN_113 z_lnsN_114 z_lnsN_115 z_lnsN_116 z_lnsN_117 z_lnsN_118 z_lnsN_119 z_lnsN_120 z_lnsN_121 z_lnsN_122 z_lnsN_123 z_lnsN_124 z_lnsN_125 z_lnsN_126 z_lnsN_127 z_lnsN_128 z_lnsN_129 z_lnsN_130 z_lnsN_131 z_lnsN_132 z_lnsN_133 z_lnsN_134 z_lnsN_135 z_lnsN_136 z_lnsN_137 z_lnsN_138 z_lnsN_139 z_lnsN_140 z_lnsN_141 z_lnsN_142 z_lnsN_143 z_lnsN_144 z_lnsN_145 z_lnsN_146 z_lnsN_147 z_lnsN_148 z_lnsN_149 z_lnsN_150 z_lnsN_151 z_lnsN_152 z_lnsN_153 z_lnsN_154 z_lnsN_155 z_lnsN_156 z_lnsN_157 z_lnsN_158 z_lnsN_159 z_lnsN_160 z_lnsN_161 z_lnsN_162 z_lnsN_163 z_lnsN_164 z_lnsN_165 z_lnsN_166 z_lnsN_167 z_lnsN_168 z_lnsN_169 z_lnsN_170 z_lnsN_171 z_lnsN_172 z_lnsN_173 z_lnsN_174 z_lnsN_175 z_lnsN_176 z_lnsN_177 z_lnsN_178 z_lnsN_179 z_lnsN_180 z_lnsN_181 z_lnsN_182 z_lnsN_183 z_lnsN_184 z_lnsN_185 z_lnsN_186 z_lnsN_187 z_lnsN_188 z_lnsN_189 z_lnsN_190 z_lnsN_191 z_lnsN_192 z_lnsN_193 z_lnsN_194 z_lnsN_195 z_lnsN_196 z_lnsN_197 z_lnsN_198 z_lnsN_199 z_lnsN_200 z_lnsN_201 z_lnsN_202 z_lnsN_203 z_lnsN_204 z_lnsN_205 z_lnsN_206 z_lnsN_207 z_lnsN_208 z_lnsN_209 z_lnsN_210 z_lnsN_211 z_lnsN_212 z_lnsN_213 z_lnsN_214 z_lnsN_215 z_lnsN_216 z_lnsN_217 z_lnsN_218 z_lnsN_219 z_lnsN_220 z_lnsN_221 z_lnsN_222 z_lnsN_223 z_lnsN_224 z_lnsN_225 z_lnsN_226 z_lnsN_227 z_lnsN_228 z_lnsN_229 z_lnsN_230 z_lnsN_231 z_lnsN_232 z_lnsN_233 z_lnsN_234 z_lnsN_235 z_lnsN_236 z_lnsN_237 z_lnsN_238 z_lnsN_239 z_lnsN_240 z_lnsN_241 z_lnsN_242 z_lnsN_243 z_lnsN_244; simp only [condP, eq_self, implies_true, and_self, true_and, and_true, true_implies, forall_const, decide_eq_true_eq, decide_eq_false_iff_not, Int.toNat_natCast, dSpan_eSpan, dInt_eInt, dGau_e, dPt_e, dLn_e, dRt_e, Nat.zero_add, Int.zero_sub, Nat.le_eq, Nat.succ_eq_add_one, Nat.add_one_le_iff, Bool.not_eq_true', Bool.not_eq_false', rng_length, dSpan_mk, rng_getD, bk_eta, show insM a.w a.k = sB a from rfl, if_true]
 obtain ⟨hs, hN, hg⟩ := sB_ok h
 have hf := flM_len (s := sB a) hN
 have h0 : 0 < (sB a).length := List.length_pos_iff.2 h3
 have ok : ∀ x, okL x -> (sB a).length < 4611686018427387904 /\ ∀ g : Gau, List.Mem g (sB a) -> okL x /\ okG g := λ x hx => ⟨by omega, λ g hgs => ⟨hx, hg g hgs⟩⟩
 have e_ok : ∀ i, i < (endsM (sB a)).length -> okP (gD (endsM (sB a)) i) := λ i hi => ends_ok hg (gD_mem hi)
 refine ⟨h, λ hh => ⟨?a, ?b1⟩, λ hh => ⟨⟨⟨by omega, ⟨0, rfl, Nat.zero_le _, rfl⟩, λ i ⟨hi, hp⟩ => ?c, λ x ⟨hi, hp⟩ => ?d⟩, ?e⟩, ?b2⟩⟩
 case a =>
  refine ⟨default, ?_⟩
  rw [upB_same hh, fdM_is hh]
  exact ⟨rfl, λ _ _ => ⟨rfl, rfl, rfl⟩, rfl, λ _ _ => rfl, λ _ => rfl, λ _ => rfl, λ _ => ⟨rfl, λ _ _ => ⟨rfl, rfl, rfl, rfl⟩⟩, rfl, λ _ _ => ⟨rfl, rfl, rfl, rfl⟩⟩
 case e => exact ⟨default, rfl, λ _ _ => ⟨rfl, rfl, rfl⟩, rfl, λ _ _ => rfl, λ _ => rfl, λ _ => rfl, fit_up⟩
 case c =>
  refine ⟨λ hlt => ?_, λ hge => ⟨default, ?_⟩⟩
  ·have hlt' : i < (endsM (sB a)).length := Int.ofNat_lt.1 hlt
   refine ⟨⟨by omega, hlt⟩, ⟨(e_ok i hlt').1, (e_ok i hlt').2.1⟩, ok _ (lev_ok (e_ok i hlt')), λ hpa => ⟨⟨by omega, by omega, by omega, by omega, by omega⟩, ⟨⟨i, 0, [levM (gD (endsM (sB a)) i)]⟩, ⟨rfl, rfl, rfl, rfl, rfl, rfl, oneL _⟩, hlt', Nat.zero_le _, rfl, ?_⟩, λ x hx => ls_inN hs hN hg x hx, λ x hx => ls_inO hs hN hg x hx⟩, λ hpa => ⟨⟨⟨i, 0⟩, ⟨rfl, rfl, rfl, rfl⟩, hlt', Nat.zero_le _, rfl, ?_⟩, λ x hx => ls_inN hs hN hg x hx, λ x hx => ls_inO hs hN hg x hx⟩⟩
   ·show _ = (preI (sB a) i 0).filter (paM (sB a))
    rw [fil_lev, hp, if_pos (show paM (sB a) _ = true from hpa)]; rfl
   ·show (preI (sB a) i 0).filter (paM (sB a)) = []
    rw [fil_lev, hp, if_neg (by rw [show paM (sB a) (levM (gD (endsM (sB a)) i)) = false from hpa]; simp)]; rfl
  ·have : i = (endsM (sB a)).length := by omega
   rw [this, preO_all] at hp; unfold flM; rw [hp]; rfl
 case d =>
  refine ⟨λ hlt => ?_, λ hge => ⟨default, ?_⟩⟩
  ·have hlt' : x.i < (endsM (sB a)).length := Int.ofNat_lt.1 hlt
   have hl : x.l.length <= 10000 := by
    have := fil_len (s := sB a) (i := x.i) (j := 0) hN
    rw [fil_lev, <- hp, List.length_append] at this; omega
   refine ⟨⟨by omega, hlt⟩, ⟨(e_ok x.i hlt').1, (e_ok x.i hlt').2.1⟩, ok _ (lev_ok (e_ok x.i hlt')), λ hpa => ⟨⟨by omega, λ _ => by omega, by omega, by omega⟩, ⟨⟨x.i, 0, x.l ++ [levM (gD (endsM (sB a)) x.i)]⟩, ⟨rfl, rfl, rfl, rfl, by simp, by simp, snocL _ _⟩, hlt', Nat.zero_le _, rfl, ?_⟩, λ x hx => ls_inN hs hN hg x hx, λ x hx => ls_inO hs hN hg x hx⟩, λ hpa => ⟨⟨⟨x.i, 0, x.l⟩, ⟨rfl, rfl, rfl, rfl, rfl, rfl, λ _ _ => ⟨rfl, rfl, rfl, rfl⟩⟩, hlt', Nat.zero_le _, rfl, ?_⟩, λ x hx => ls_inN hs hN hg x hx, λ x hx => ls_inO hs hN hg x hx⟩⟩
   ·show _ = (preI (sB a) x.i 0).filter (paM (sB a))
    rw [fil_lev, <- hp, if_pos (show paM (sB a) _ = true from hpa)]
   ·show x.l = (preI (sB a) x.i 0).filter (paM (sB a))
    rw [fil_lev, <- hp, if_neg (by rw [show paM (sB a) (levM (gD (endsM (sB a)) x.i)) = false from hpa]; simp), List.append_nil]
  ·have hx : x.l = flM (sB a) := by rw [hp, show x.i = (endsM (sB a)).length by omega, preO_all]; rfl
   rw [hx]; exact ⟨rfl, Nat.le_refl _, λ _ _ => ⟨rfl, rfl, rfl, rfl⟩⟩
 all_goals
  ·have hmo : ∀ i : Nat, i <= (endsM (sB a)).length -> ¬(i : Int) < (endsM (sB a)).length -> moK (sB a) a.st i = moM (sB a) a.st := λ i h1 h2 => by
    rw [show i = (endsM (sB a)).length by omega, moK_all]
   refine ⟨λ hc => by rw [lnsM_c, hc]; rfl, λ hc => ⟨h2, by omega, ls_14e _ _, λ i hi => ⟨λ hlt => ls_14s hN hlt, λ hge => ⟨⟨?_, by omega⟩, ⟨⟨0, flM (sB a)⟩, ⟨rfl, by rw [hmo i hi hge], by rw [hmo i hi hge], rfl, by rw [hmo i hi hge], λ j _ => by rw [hmo i hi hge]; exact ⟨rfl, rfl, rfl, rfl⟩, rfl, λ _ _ => ⟨rfl, rfl, rfl, rfl⟩⟩, Nat.zero_le _, by simp⟩, λ x hx => ⟨λ hlt => ⟨ls_20s hs hN hg hf hx hlt, λ y hy => ls_20c hN y hy⟩, λ hge => ?_⟩⟩⟩⟩⟩
   ·simp only [decide_eq_true (show ((sB a).length : Int) > 0 by omega), cond_true, beq_eq_false_iff_ne, ne_eq] at hc
    omega
   ·have e : lnsM (sB a) a.st = x.l := by rw [lnsM_c, hc, hx.2, List.take_of_length_le (by omega)]; rfl
    rw [e]; exact ⟨rfl, Nat.le_refl _, λ _ _ => ⟨rfl, rfl, rfl, rfl⟩⟩
theorem ls_20d {s : List Gau} {t : Int} (hN : (endsM s).length <= 48) {m : Nat} (i : Nat) (hx : i < (moM s t).length /\ (moM s t).length - i = m /\ ((moM s t).take (i + 1)).filter (okX s) = []) : ∃ y : Nat, (y : Int) = IntKind.i64.wrap ((i : Int) + 1) /\ (y <= (moM s t).length /\ ((moM s t).take y).filter (okX s) = []) /\ (moM s t).length - y < m := by
 have := moM_len (s := s) (t := t)
 exact ⟨i + 1, (wsucc (by omega)).symm, ⟨hx.1, hx.2.2⟩, by omega⟩
theorem p_lnsE (a : BkS) (h : bkOk a.w.g a.w.b) (h2 : 0 <= a.st /\ a.st <= 2000) (h3 : sB a = []) : V_lnsE a := by
 rw [vc_lnsE]; delta z_lnsE_0 z_lnsE_1 z_lnsE_2 z_lnsE_3 z_lnsE_4 z_lnsE_5 z_lnsE_6 z_lnsE_7 z_lnsE_8 z_lnsE_9 z_lnsE_10 z_lnsE_11 z_lnsE_12 z_lnsE_13 z_lnsE_14 z_lnsE_15 z_lnsE_16 z_lnsE_17 z_lnsE_18 z_lnsE_19 z_lnsE_20 z_lnsE_21 z_lnsE_22 z_lnsE_23 z_lnsE_24 z_lnsE_25 z_lnsE_26 z_lnsE_27 z_lnsE_28 z_lnsE_29 z_lnsE_30 z_lnsE_31 z_lnsE_32 z_lnsE_33 z_lnsE_34 z_lnsE_35 z_lnsE_36 z_lnsE_37 z_lnsE_38 z_lnsE_39 z_lnsE_40 z_lnsE_41 z_lnsE_42 z_lnsE_43 z_lnsE_44 z_lnsE_45 z_lnsE_46 z_lnsE_47 z_lnsE_48 z_lnsE_49 z_lnsE_50 z_lnsE_51 z_lnsE_52 z_lnsE_53 z_lnsE_54 z_lnsE_55 z_lnsE_56 z_lnsE_57 z_lnsE_58 z_lnsE_59 z_lnsE_60 z_lnsE_61 z_lnsE_62 z_lnsE_63 z_lnsE_64 z_lnsE_65 z_lnsE_66 z_lnsE_67 z_lnsE_68 z_lnsE_69 z_lnsE_70 z_lnsE_71 z_lnsE_72 z_lnsE_73 z_lnsE_74 z_lnsE_75 z_lnsE_76 z_lnsE_77 z_lnsE_78 z_lnsE_79 z_lnsE_80 z_lnsE_81 z_lnsE_82 z_lnsE_83 z_lnsE_84 z_lnsE_85 z_lnsE_86 z_lnsE_87 z_lnsE_88 z_lnsE_89 z_lnsE_90 z_lnsE_91 z_lnsE_92 z_lnsE_93 z_lnsE_94 z_lnsE_95 z_lnsE_96 z_lnsE_97 z_lnsE_98 z_lnsE_99 z_lnsE_100 z_lnsE_101 z_lnsE_102 z_lnsE_103 z_lnsE_104 z_lnsE_105 z_lnsE_106 z_lnsE_107 z_lnsE_108 z_lnsE_109 z_lnsE_110 z_lnsE_111 z_lnsE_112 z_lnsE_113 z_lnsE_114 z_lnsE_115 z_lnsE_116 z_lnsE_117 z_lnsE_118 z_lnsE_119 z_lnsE_120 z_lnsE_121 z_lnsE_122 z_lnsE_123 z_lnsE_124 z_lnsE_125 z_lnsE_126 z_lnsE_127 z_lnsE_128 z_lnsE_129 z_lnsE_130 z_lnsE_131 z_lnsE_132 z_lnsE_133 z_lnsE_134 z_lnsE_135 z_lnsE_136 z_lnsE_137 z_lnsE_138 z_lnsE_139 z_lnsE_140 z_lnsE_141 z_lnsE_142 z_lnsE_143 z_lnsE_144 z_lnsE_145 z_lnsE_146 z_lnsE_147 z_lnsE_148 z_lnsE_149 z_lnsE_150 z_lnsE_151 z_lnsE_152 z_lnsE_153 z_lnsE_154 z_lnsE_155 z_lnsE_156 z_lnsE_157 z_lnsE_158 z_lnsE_159 z_lnsE_160 z_lnsE_161 z_lnsE_162 z_lnsE_163 z_lnsE_164 z_lnsE_165 z_lnsE_166 z_lnsE_167 z_lnsE_168 z_lnsE_169 z_lnsE_170 z_lnsE_171 z_lnsE_172 z_lnsE_173 z_lnsE_174 z_lnsE_175 z_lnsE_176 z_lnsE_177 z_lnsE_178 z_lnsE_179 z_lnsE_180 z_lnsE_181 z_lnsE_182 z_lnsE_183 z_lnsE_184 z_lnsE_185 z_lnsE_186 z_lnsE_187 z_lnsE_188 z_lnsE_189 z_lnsE_190 z_lnsE_191 z_lnsE_192 z_lnsE_193 z_lnsE_194 z_lnsE_195 z_lnsE_196 z_lnsE_197 z_lnsE_198 z_lnsE_199 z_lnsE_200 z_lnsE_201 z_lnsE_202 z_lnsE_203 z_lnsE_204 z_lnsE_205 z_lnsE_206 z_lnsE_207 z_lnsE_208 z_lnsE_209 z_lnsE_210 z_lnsE_211 z_lnsE_212 z_lnsE_213 z_lnsE_214 z_lnsE_215 z_lnsE_216 z_lnsE_217 z_lnsE_218 z_lnsE_219 z_lnsE_220 z_lnsE_221 z_lnsE_222 z_lnsE_223 z_lnsE_224 z_lnsE_225 z_lnsE_226 z_lnsE_227 z_lnsE_228 z_lnsE_229 z_lnsE_230 z_lnsE_231 z_lnsE_232 z_lnsE_233 z_lnsE_234 z_lnsE_235 z_lnsE_236 z_lnsE_237 z_lnsE_238 z_lnsE_239 z_lnsE_240 z_lnsE_241 z_lnsE_242 z_lnsE_243 z_lnsE_244 z_lnsE_245 z_lnsE_246 z_lnsE_247 z_lnsE_248 z_lnsE_249 z_lnsE_250 z_lnsE_251 z_lnsE_252 z_lnsE_253 z_lnsE_254 z_lnsE_255 z_lnsE_256 z_lnsE_257 z_lnsE_258; simp only [condP, eq_self, implies_true, and_self, true_and, and_true, true_implies, forall_const, decide_eq_true_eq, decide_eq_false_iff_not, Int.toNat_natCast, dSpan_eSpan, dInt_eInt, dGau_e, dPt_e, dLn_e, dRt_e, Nat.zero_add, Int.zero_sub, Nat.le_eq, Nat.succ_eq_add_one, Nat.add_one_le_iff, Bool.not_eq_true', Bool.not_eq_false', rng_length, dSpan_mk, rng_getD, bk_eta, show insM a.w a.k = sB a from rfl, if_true]
 obtain ⟨hs, hN, hg⟩ := sB_ok h
 have hf : flM (sB a) = [] := fil_nil h3
 have h0 : (endsM (sB a)).length = 0 := by rw [h3]; rfl
 have hS : (sB a).length = 0 := by rw [h3]; rfl
 have ok : ∀ x, okL x -> (sB a).length < 4611686018427387904 /\ ∀ g : Gau, List.Mem g (sB a) -> okL x /\ okG g := λ x hx => ⟨by omega, λ g hgs => ⟨hx, hg g hgs⟩⟩
 have hc : (bif decide (((sB a).length : Int) > 0) then ((flM (sB a)).length : Int) == 0 else false) = false := by rw [hS]; rfl
 refine ⟨h, λ hh => ⟨?a, ?b1⟩, λ hh => ⟨⟨⟨by omega, ⟨0, rfl, Nat.zero_le _, rfl⟩, λ i ⟨hi, hp⟩ => ?c, λ x ⟨hi, hp⟩ => ?d⟩, ?e⟩, ?b2⟩⟩
 case a =>
  refine ⟨default, ?_⟩
  rw [upB_same hh, fdM_is hh]
  exact ⟨rfl, λ _ _ => ⟨rfl, rfl, rfl⟩, rfl, λ _ _ => rfl, λ _ => rfl, λ _ => rfl, λ _ => ⟨rfl, λ _ _ => ⟨rfl, rfl, rfl, rfl⟩⟩, by show 0 = (flM (sB a)).length; rw [hf]; rfl⟩
 case e => exact ⟨default, rfl, λ _ _ => ⟨rfl, rfl, rfl⟩, rfl, λ _ _ => rfl, λ _ => rfl, λ _ => rfl, fit_up, by rw [hf]; rfl⟩
 case c => exact ⟨λ hlt => absurd hlt (by omega), λ hge => ⟨default, by rw [hf]; rfl⟩⟩
 case d =>
  refine ⟨λ hlt => absurd hlt (by omega), λ hge => ⟨default, ?_⟩⟩
  have hx : x.l = flM (sB a) := by rw [hp, show x.i = (endsM (sB a)).length by omega, preO_all]; rfl
  rw [hx]; exact ⟨rfl, Nat.le_refl _, λ _ _ => ⟨rfl, rfl, rfl, rfl⟩⟩
 all_goals
  have hmo : ∀ i : Nat, i <= (endsM (sB a)).length -> moK (sB a) a.st i = moM (sB a) a.st := λ i h1 => by
   rw [show i = (endsM (sB a)).length by omega, moK_all]
  have hML := moM_len (s := sB a) (t := a.st)
  refine ⟨λ hc => ?_, λ _ => ⟨h2, by omega, ls_14e _ _, λ i hi => ⟨λ hlt => ls_14s hN hlt, λ hge => ⟨⟨0, ⟨by rw [hmo i hi], by rw [hmo i hi], rfl, by rw [hmo i hi], λ j _ => by rw [hmo i hi]; exact ⟨rfl, rfl, rfl, rfl⟩⟩, Nat.zero_le _, rfl⟩, λ x ⟨hx, hy⟩ => ⟨λ hlt => ⟨?_, λ y hy => ls_20d hN y hy, λ y hy => ls_20c hN y hy⟩, λ hge => ?_⟩, λ x hx => ⟨λ hlt => ⟨ls_20s hs hN hg (by rw [hf]; exact Nat.zero_le _) hx hlt, λ y hy => ls_20d hN y hy, λ y hy => ls_20c hN y hy⟩, λ hge => ?_⟩⟩⟩⟩⟩
  ·rw [hS] at hc; cases hc
  ·have h' : x < (moM (sB a) a.st).length := Int.ofNat_lt.1 hlt
   refine ⟨⟨⟨by omega, hlt⟩, h'⟩, λ hr => ok _ (riL_ok.1 hr), λ hp => ⟨⟨by omega, by omega, by omega, by omega, by omega⟩, ⟨x, [gD (moM (sB a) a.st) x]⟩, ⟨rfl, rfl, rfl, oneL _⟩, h', rfl, ?_⟩, λ hp => ⟨x, rfl, h', rfl, ?_⟩⟩
   ·show [_] = _
    rw [fil_mo h', if_pos (show okX (sB a) (gD (moM (sB a) a.st) x) = true from hp), hy, hf]; rfl
   ·rw [fil_mo h', if_neg (by intro hq; have hq : (bif riL (gD (moM (sB a) a.st) x) then (sB a).all λ g => passM (gD (moM (sB a) a.st) x) g else false) = true := hq; rw [hp] at hq; cases hq), hy]; rfl
  ·have hz : (moM (sB a) a.st).filter (okX (sB a)) = [] := by rw [<- hy, List.take_of_length_le (by omega)]
   rw [lnsM_c, hc, hf, hz]; rfl
  ·have e : lnsM (sB a) a.st = x.l := by rw [lnsM_c, hc, hx.2, List.take_of_length_le (by omega)]; rfl
   rw [e]; exact ⟨rfl, Nat.le_refl _, λ _ _ => ⟨rfl, rfl, rfl, rfl⟩⟩
theorem ok_lns : SpecOk Try.prog n_lines (C_lns.spec dBkS) := Ctr.spec_ok (C := C_lns) (λ (a : BkS) h => by
 have h : bkOk a.w.g a.w.b /\ 0 <= a.st /\ a.st <= 2000 := h
 by_cases h3 : sB a = []
 ·exact fnt (A := A_lnsE a) (ren := []) (fz := [403]) fn_lines (by kernel_rfl) (gok_cons ok_inside (gok_cons ok_through (gok_cons ok_passing (gok_cons ok_level (gok_cons ok_ends (gok_cons ok_riL (gok_cons ok_cloE gok_nil))))))) (p_lnsE a h.1 h.2 h3) (iterI n_through1 (itLns a) rfl rfl (gok_cons ok_ends (gok_cons ok_level (gok_cons ok_riL gok_nil))) fn_through1 (by kernel_rfl) (by kernel_rfl))
 ·exact fnt (A := A_lnsN a) (ren := []) (fz := [403]) fn_lines (by kernel_rfl) (gok_cons ok_inside (gok_cons ok_through (gok_cons ok_passing (gok_cons ok_level (gok_cons ok_ends (gok_cons ok_riL (gok_cons ok_cloN gok_nil))))))) (p_lnsN a h.1 h.2 h3) (iterI n_through1 (itLns a) rfl rfl (gok_cons ok_ends (gok_cons ok_level (gok_cons ok_riL gok_nil))) fn_through1 (by kernel_rfl) (by kernel_rfl))) _
end Go.Bal
