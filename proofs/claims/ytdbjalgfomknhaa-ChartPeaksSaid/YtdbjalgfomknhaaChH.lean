/- Package chart: spans joined; times parted. -/
import Derived.Test.YtdbjalgfomknhaaChG3
set_option linter.unusedVariables false
set_option linter.unusedSimpArgs false
namespace Go.Bal
open Go Go.Sym Go.Proofs
structure Hul where
 s : Span
 m : Bool
 deriving Inhabited
def hlB (h : Hul) : AObj := .box [.int h.s.lo, .int h.s.hi, .bool h.m]
def hadM (h : Hul) (s : Span) : Hul := ⟨⟨bif h.m then minI s.lo h.s.lo else s.lo, bif h.m then maxI s.hi h.s.hi else s.hi⟩, true⟩
structure HuS where
 h : Hul
 s : Span
def decHl (H : Heap) (id : Nat) : Option Hul := match H id with
 | .live (.box [.d a, .d b, .d c]) => some ⟨⟨dInt a, dInt b⟩, dBool c⟩
 | _ => none
def dHuS : List AVal -> Heap -> Option (HuS × List (Nat × Nat) × List Nat)
 | [.bptr id _, .d s], H => match decHl H id with
  | some h => some (⟨h, dSpan s⟩, [(100, id)], [])
  | none => none
 | _, _ => none
def C_hadd : Ctr := { α := HuS, xs := λ a => [.bptr 100 0, .d (eSpan a.s)], L := λ a => [(100, hlB a.h)], val := λ _ => .d (.tup []), keep := λ a => [(100, .live (hlB (hadM a.h a.s)))] }
def A_hadd : Ann := { ann 32 [] with E := [100] }
def V_hadd (a : HuS) : Prop := fnVC Try.prog A_hadd F_hadd (bodyOf F_hadd) (C_hadd.xs a) (heapOf (C_hadd.L a)) (C_hadd.val a) (C_hadd.keep a) [] []
theorem vc_hadd (a : HuS) : (V_hadd a) = (bif a.h.m then (hadM a.h a.s).s.lo = minI a.s.lo a.h.s.lo /\ (hadM a.h a.s).s.hi = maxI a.s.hi a.h.s.hi /\ true = true else (hadM a.h a.s).s.lo = a.s.lo /\ (hadM a.h a.s).s.hi =
 a.s.hi /\ true = true) := by kernel_rfl
theorem ok_hadd : SpecOk Try.prog n_hadd (C_hadd.spec dHuS) := okC C_hadd (λ _ => A_hadd) [] [] fn_hadd (λ _ => by kernel_rfl) (λ _ => gok_nil) (λ (a : HuS) _ => by
 show V_hadd a; rw [vc_hadd]; simp only [condP, eq_self, implies_true, and_self, true_and, and_true, true_implies, forall_const, decide_eq_true_eq, decide_eq_false_iff_not, Int.toNat_natCast, dSpan_eSpan, dInt_eInt, dMk_e, dNt_e, dPr_e, Nat.zero_add, Int.zero_sub, Nat.le_eq, Nat.succ_eq_add_one, Nat.add_one_le_iff, Bool.not_eq_true', Bool.not_eq_false', rng_length, dSpan_mk, rng_getD]
 refine ⟨λ h => ?_, λ h => ?_⟩ <;> · unfold hadM; rw [h]; exact ⟨rfl, rfl⟩) (λ _ => noI rfl rfl) _
def whoM (h : Hul) : Span × Int := bif h.m then (h.s, 0) else (⟨0, 0⟩, 5)
def dHu1 : List AVal -> Heap -> Option (Hul × List (Nat × Nat) × List Nat)
 | [.bptr id _], H => match decHl H id with
  | some h => some (h, [(100, id)], [])
  | none => none
 | _, _ => none
def C_who : Ctr := { ro := [100], α := Hul, xs := λ _ => [.bptr 100 0], L := λ h => [(100, hlB h)], val := λ h => .tup [.d (eSpan (whoM h).1), .int (whoM h).2], keep := λ h => [(100, .live (hlB h))] }
def A_who : Ann := { ann 14 [] with E := [100] }
def V_who (h : Hul) : Prop := fnVC Try.prog A_who F_whole (bodyOf F_whole) (C_who.xs h) (heapOf (C_who.L h)) (C_who.val h) (C_who.keep h) [] []
theorem vc_who (h : Hul) : (V_who h) = (bif !h.m then (whoM h).fst.lo = 0 /\ (whoM h).fst.hi = 0 /\ (whoM h).snd = 5 /\ h.s.lo = h.s.lo /\ h.s.hi = h.s.hi /\ h.m = h.m else (whoM h).fst.lo = h.s.lo /\ (whoM h).fst.hi = h.s.hi
 /\ (whoM h).snd = 0 /\ h.s.lo = h.s.lo /\ h.s.hi = h.s.hi /\ h.m = h.m) := by kernel_rfl
theorem ok_who : SpecOk Try.prog n_whole (C_who.spec dHu1) := okC C_who (λ _ => A_who) [] [] fn_whole (λ _ => by kernel_rfl) (λ _ => gok_nil) (λ (h : Hul) _ => by
 show V_who h; rw [vc_who]; simp only [condP, eq_self, implies_true, and_self, true_and, and_true, true_implies, forall_const, decide_eq_true_eq, decide_eq_false_iff_not, Int.toNat_natCast, dSpan_eSpan, dInt_eInt, dMk_e, dNt_e, dPr_e, Nat.zero_add, Int.zero_sub, Nat.le_eq, Nat.succ_eq_add_one, Nat.add_one_le_iff, Bool.not_eq_true', Bool.not_eq_false', rng_length, dSpan_mk, rng_getD]
 refine ⟨λ q => ?_, λ q => ?_⟩ <;> · unfold whoM; rw [q]; exact ⟨rfl, rfl, rfl⟩) (λ _ => noI rfl rfl) _
structure DkQ where
 w : Dk
 l : List Span
 k : Int
 a : Int
 b : Int
def parM (l : List Span) (k a b : Int) (i : Nat) : Span := ⟨bif decide (i = k.toNat) && decide (k < l.length) then maxI (gD l i).lo b else (gD l i).lo, bif decide (k > 0) && decide (i = (k - 1).toNat) then minI (gD l i).hi a else (gD l i).hi⟩
def parL (l : List Span) (k a b : Int) : List Span := rng l.length (parM l k a b)
def dDkQ : List AVal -> Heap -> Option (DkQ × List (Nat × Nat) × List Nat)
 | [.bptr id _, y, .d k, .d a, .d b], H => match decDk H id, dSpans y H with
  | some (w, q), some (l, f) => some (⟨w, l, dInt k, dInt a, dInt b⟩, [(100, id), (101, q)], f)
  | _, _ => none
 | _, _ => none
def C_part : Ctr := { ro := [100, 101], α := DkQ, xs := λ a => [.bptr 100 0, .d (eSpans a.l), .int a.k, .int a.a, .int a.b], L := λ a => dkL a.w, val := λ a => .d (eSpans (parL a.l a.k a.a a.b)), keep := λ a => dkK a.w, pre := λ a => [(1 <= a.l.length /\ a.l.length <= 40) /\ 0 <= a.k /\ a.k <= a.l.length] }
def A_part : Ann := { ann 45 [(n_cloneS, C_clo.spec dSs1)] with E := [100, 101] }
def V_part (a : DkQ) : Prop := fnVC Try.prog A_part F_parted (bodyOf F_parted) (C_part.xs a) (heapOf (C_part.L a)) (C_part.val a) (C_part.keep a) [] [2016]
abbrev z_part_0 (a : DkQ) : List Span := rng a.l.length λ (i : Nat) => gD a.l i
abbrev z_part_1 (a : DkQ) : Nat := (z_part_0 a).length
abbrev z_part_2 (a : DkQ) (i : Nat) : Span := gD (z_part_0 a) i
abbrev z_part_3 (a : DkQ) : Int := IntKind.i64.wrap (a.k - 1)
abbrev z_part_4 (a : DkQ) : Prop := 0 <= z_part_3 a /\ z_part_3 a < (↑(z_part_1 a) : Int)
abbrev z_part_5 (a : DkQ) : Nat := 0 + (z_part_3 a).toNat
abbrev z_part_6 (a : DkQ) : Prop := a.k < (↑(z_part_1 a) : Int)
abbrev z_part_7 (a : DkQ) : Bool := decide (z_part_6 a)
abbrev z_part_8 (a : DkQ) : Prop := 0 <= a.k /\ z_part_6 a
abbrev z_part_9 (a : DkQ) : Nat := 0 + a.k.toNat
abbrev z_part_10 (a : DkQ) : Prop := z_part_8 a /\ z_part_9 a < z_part_1 a /\ z_part_8 a /\ (z_part_9 a).succ.le (z_part_1 a)
abbrev z_part_11 (a : DkQ) : Nat := (parL a.l a.k a.a a.b).length
abbrev z_part_12 (a : DkQ) : Prop := z_part_11 a = z_part_1 a
abbrev z_part_13 (a : DkQ) : Prop := 0 + z_part_1 a <= z_part_1 a
abbrev z_part_14 (j : Nat) (a : DkQ) : Prop := j < z_part_11 a
abbrev z_part_15 (a : DkQ) (j : Nat) : Span := gD (parL a.l a.k a.a a.b) j
abbrev z_part_16 (a : DkQ) (j : Nat) : Int := (z_part_15 a j).lo
abbrev z_part_17 (j : Nat) : Nat := 0 + j
abbrev z_part_18 (j : Nat) (a : DkQ) : Bool := decide (z_part_17 j = z_part_9 a)
abbrev z_part_19 (a : DkQ) : Bool := decide (z_part_9 a = z_part_5 a)
abbrev z_part_20 (a : DkQ) : Span := gD (z_part_0 a) (z_part_5 a)
abbrev z_part_21 (a : DkQ) : Int := (z_part_20 a).lo
abbrev z_part_22 (a : DkQ) : Span := gD (z_part_0 a) (z_part_9 a)
abbrev z_part_23 (a : DkQ) : Int := (z_part_22 a).lo
abbrev z_part_24 (j : Nat) (a : DkQ) : Bool := decide (z_part_17 j = z_part_5 a)
abbrev z_part_25 (a : DkQ) (j : Nat) : Span := gD (z_part_0 a) (z_part_17 j)
abbrev z_part_26 (a : DkQ) (j : Nat) : Int := (z_part_25 a j).lo
abbrev z_part_27 (j : Nat) (a : DkQ) : Int := bif z_part_24 j a then z_part_21 a else z_part_26 a j
abbrev z_part_28 (a : DkQ) (j : Nat) : Int := (z_part_15 a j).hi
abbrev z_part_29 (a : DkQ) : Int := minI (z_part_20 a).hi a.a
abbrev z_part_30 (a : DkQ) : Int := (z_part_22 a).hi
abbrev z_part_31 (a : DkQ) (j : Nat) : Int := (z_part_25 a j).hi
abbrev z_part_32 (j : Nat) (a : DkQ) : Int := bif z_part_24 j a then z_part_29 a else z_part_31 a j
abbrev z_part_33 (a : DkQ) (i : Nat) : Int := (gD a.w.c.ns i).t.lo
abbrev z_part_34 (a : DkQ) (i : Nat) : Int := (gD a.w.c.ns i).t.hi
abbrev z_part_35 (a : DkQ) (i : Nat) : Int := (gD a.w.c.ns i).s.lo
abbrev z_part_36 (a : DkQ) (i : Nat) : Int := (gD a.w.c.ns i).s.hi
abbrev z_part_37 (a : DkQ) : Prop := a.w.c.p.lo = a.w.c.p.lo /\ a.w.c.p.hi = a.w.c.p.hi /\ a.w.c.base = a.w.c.base /\ a.w.c.scale = a.w.c.scale /\ a.w.c.off = a.w.c.off /\ a.w.c.ms.length = a.w.c.ms.length /\ (∀ (i : Nat), i <
 a.w.c.ms.length -> (gD a.w.c.ms i).pl = (gD a.w.c.ms i).pl /\ (gD a.w.c.ms i).ht = (gD a.w.c.ms i).ht) /\ a.w.c.ns.length = a.w.c.ns.length /\ (∀ (i : Nat), i < a.w.c.ns.length -> (gD a.w.c.ns i).mi = (gD a.w.c.ns i).mi /\
 z_part_33 a i = z_part_33 a i /\ z_part_34 a i = z_part_34 a i /\ z_part_35 a i = z_part_35 a i /\ z_part_36 a i = z_part_36 a i) /\ (∀ (i : Nat), i < 40 -> a.w.sp i = a.w.sp i) /\ zNt = zNt /\ (∀ (n : Int), hasN a.w.c.ns n =
 hasN a.w.c.ns n) /\ (∀ (n : Int), a.w.st n = a.w.st n) /\ ∀ (n : Int), (ntOf a.w.c.ns n).mi = (ntOf a.w.c.ns n).mi /\ (ntOf a.w.c.ns n).t.lo = (ntOf a.w.c.ns n).t.lo /\ (ntOf a.w.c.ns n).t.hi = (ntOf a.w.c.ns n).t.hi /\ (ntOf
 a.w.c.ns n).s.lo = (ntOf a.w.c.ns n).s.lo /\ (ntOf a.w.c.ns n).s.hi = (ntOf a.w.c.ns n).s.hi
theorem vc_part (a : DkQ) : (V_part a) = ((z_part_1 a = a.l.length /\ (∀ (i : Nat), i < z_part_1 a -> (z_part_2 a i).lo = (gD a.l i).lo /\ (z_part_2 a i).hi = (gD a.l i).hi) /\ 0 < z_part_1 a /\ z_part_1 a < 1073741824) /\ bif
 decide (a.k > 0) then (z_part_4 a /\ z_part_5 a < z_part_1 a /\ z_part_4 a /\ (z_part_5 a).succ.le (z_part_1 a)) /\ bif z_part_7 a then z_part_10 a /\ z_part_12 a /\ z_part_13 a /\ (∀ (j : Nat), z_part_14 j a -> (z_part_16 a j =
 bif z_part_18 j a then maxI (bif z_part_19 a then z_part_21 a else z_part_23 a) a.b else z_part_27 j a) /\ z_part_28 a j = bif z_part_18 j a then bif z_part_19 a then z_part_29 a else z_part_30 a else z_part_32 j a) /\
 z_part_37 a else z_part_12 a /\ z_part_13 a /\ (∀ (j : Nat), z_part_14 j a -> z_part_16 a j = z_part_27 j a /\ z_part_28 a j = z_part_32 j a) /\ z_part_37 a else bif z_part_7 a then z_part_10 a /\ z_part_12 a /\ z_part_13 a /\
 (∀ (j : Nat), z_part_14 j a -> (z_part_16 a j = bif z_part_18 j a then maxI (z_part_23 a) a.b else z_part_26 a j) /\ z_part_28 a j = bif z_part_18 j a then z_part_30 a else z_part_31 a j) /\ z_part_37 a else z_part_12 a /\
 z_part_13 a /\ (∀ (j : Nat), z_part_14 j a -> z_part_16 a j = z_part_26 a j /\ z_part_28 a j = z_part_31 a j) /\ z_part_37 a) := by kernel_rfl
theorem parL_len (l : List Span) (k a b : Int) : (parL l k a b).length = l.length := rng_length _ _
theorem ok_part : SpecOk Try.prog n_parted (C_part.spec dDkQ) := okC C_part (λ _ => A_part) [] [2016] fn_parted (λ _ => by kernel_rfl) (λ _ => gok_cons ok_clo gok_nil) (λ (a : DkQ) h => by
 obtain ⟨⟨h1, h2⟩, h3, h4⟩ : (1 <= a.l.length /\ a.l.length <= 40) /\ 0 <= a.k /\ a.k <= a.l.length := h
 have e : IntKind.i64.wrap (a.k - 1) = a.k - 1 := w64 (by omega) (by omega)
 have gj : ∀ {j : Nat}, j < a.l.length -> gD (parL a.l a.k a.a a.b) j = parM a.l a.k a.a a.b j := λ hj => rng_get _ _ _ hj
 have t : (a.k - 1).toNat = a.k.toNat - 1 := by omega
 show V_part a; rw [vc_part]; delta z_part_0 z_part_1 z_part_2 z_part_3 z_part_4 z_part_5 z_part_6 z_part_7 z_part_8 z_part_9 z_part_10 z_part_11 z_part_12 z_part_13 z_part_14 z_part_15 z_part_16 z_part_17 z_part_18 z_part_19 z_part_20 z_part_21 z_part_22 z_part_23 z_part_24 z_part_25 z_part_26 z_part_27 z_part_28 z_part_29 z_part_30 z_part_31 z_part_32 z_part_33 z_part_34 z_part_35 z_part_36 z_part_37; simp only [condP, eq_self, implies_true, and_self, true_and, and_true, true_implies, forall_const, decide_eq_true_eq, decide_eq_false_iff_not, Int.toNat_natCast, dSpan_eSpan, dInt_eInt, dMk_e, dNt_e, dPr_e, Nat.zero_add, Int.zero_sub, Nat.le_eq, Nat.succ_eq_add_one, Nat.add_one_le_iff, Bool.not_eq_true', Bool.not_eq_false', rng_length, dSpan_mk, rng_getD, e, parL_len, t]
 refine ⟨⟨by omega, by omega⟩, λ hk => ⟨⟨⟨by omega, by omega⟩, by omega, ⟨by omega, by omega⟩, by omega⟩, λ hl => ⟨⟨⟨by omega, by omega⟩, by omega, ⟨by omega, by omega⟩, by omega⟩, Nat.le_refl _, λ j hj => ?_⟩, λ hl => ⟨Nat.le_refl _, λ j hj => ?_⟩⟩, λ hk => ⟨λ hl => ⟨⟨⟨by omega, by omega⟩, by omega, ⟨by omega, by omega⟩, by omega⟩, Nat.le_refl _, λ j hj => ?_⟩, λ hl => by omega⟩⟩
 ·rw [gj hj]; unfold parM; rw [t]
  have q0 : ¬ a.k.toNat = a.k.toNat - 1 := by omega
  by_cases q1 : j = a.k.toNat
  ·subst q1
   simp [hk, hl, q0]
  ·by_cases q2 : j = a.k.toNat - 1
   ·simp only [decide_eq_false q1, decide_eq_true q2, decide_eq_true hk, Bool.false_and, Bool.and_self, cond_true, cond_false]
    rw [q2]; exact ⟨rfl, rfl⟩
   ·simp [hk, q1, q2]
 ·rw [gj hj]; unfold parM; rw [t]
  by_cases q2 : j = a.k.toNat - 1
  ·simp only [decide_eq_true q2, decide_eq_true hk, decide_eq_false hl, Bool.and_false, Bool.and_self, cond_true, cond_false]
   rw [q2]; exact ⟨rfl, rfl⟩
  ·simp [hl, q2]
 ·rw [gj hj]; unfold parM; rw [t]
  by_cases q1 : j = a.k.toNat
  ·subst q1
   simp [hk, hl]
  ·simp [hk, q1]) (λ _ => noI rfl rfl) _
structure DkW where
 w : Dk
 l : List Span
 a : Int
 b : Int
 x : Int
 y : Int
def winL (l : List Span) (a b x y : Int) : List Span := parL (parL l a (wr (x - 1)) x) (wr (b + 1)) y (wr (y + 1))
def dDkW : List AVal -> Heap -> Option (DkW × List (Nat × Nat) × List Nat)
 | [.bptr id _, y, .d k, .d a, .d b, .d c], H => match decDk H id, dSpans y H with
  | some (w, q), some (l, f) => some (⟨w, l, dInt k, dInt a, dInt b, dInt c⟩, [(100, id), (101, q)], f)
  | _, _ => none
 | _, _ => none
def C_win : Ctr := { ro := [100, 101], α := DkW, xs := λ a => [.bptr 100 0, .d (eSpans a.l), .int a.a, .int a.b, .int a.x, .int a.y], L := λ a => dkL a.w, val := λ a => .d (eSpans (winL a.l a.a a.b a.x a.y)), keep := λ a => dkK a.w, pre := λ a => [(1 <= a.l.length /\ a.l.length <= 40) /\ (0 <= a.a /\ a.a < a.l.length) /\ 0 <= a.b /\ a.b < a.l.length] }
def A_win : Ann := { ann 29 [(n_parted, C_part.spec dDkQ)] with E := [100, 101] }
def V_win (a : DkW) : Prop := fnVC Try.prog A_win F_within (bodyOf F_within) (C_win.xs a) (heapOf (C_win.L a)) (C_win.val a) (C_win.keep a) [] []
abbrev z_win_0 (a : DkW) : List Span := rng a.l.length λ (i : Nat) => gD a.l i
abbrev z_win_1 (a : DkW) : Nat := (z_win_0 a).length
abbrev z_win_2 (a : DkW) (i : Nat) : Span := gD (z_win_0 a) i
abbrev z_win_3 (a : DkW) : Int := IntKind.i64.wrap (a.x - 1)
abbrev z_win_4 (a : DkW) : Prop := a.w.c.p.lo = a.w.c.p.lo
abbrev z_win_5 (a : DkW) : Prop := a.w.c.p.hi = a.w.c.p.hi
abbrev z_win_6 (a : DkW) : Prop := a.w.c.base = a.w.c.base
abbrev z_win_7 (a : DkW) : Prop := a.w.c.scale = a.w.c.scale
abbrev z_win_8 (a : DkW) : Prop := a.w.c.off = a.w.c.off
abbrev z_win_9 (a : DkW) : List Mk := rng a.w.c.ms.length λ (i : Nat) => gD a.w.c.ms i
abbrev z_win_10 (a : DkW) : Nat := (z_win_9 a).length
abbrev z_win_11 (a : DkW) : Prop := z_win_10 a = a.w.c.ms.length
abbrev z_win_12 (a : DkW) (i : Nat) : Mk := gD (z_win_9 a) i
abbrev z_win_13 (a : DkW) (i : Nat) : Int := (z_win_12 a i).pl
abbrev z_win_14 (a : DkW) (i : Nat) : Int := (z_win_12 a i).ht
abbrev z_win_15 (a : DkW) : Prop := ∀ (i : Nat), i < z_win_10 a -> z_win_13 a i = (gD a.w.c.ms i).pl /\ z_win_14 a i = (gD a.w.c.ms i).ht
abbrev z_win_16 (a : DkW) : List Nt := rng a.w.c.ns.length λ (i : Nat) => gD a.w.c.ns i
abbrev z_win_17 (a : DkW) : Nat := (z_win_16 a).length
abbrev z_win_18 (a : DkW) : Prop := z_win_17 a = a.w.c.ns.length
abbrev z_win_19 (a : DkW) (i : Nat) : Nt := gD (z_win_16 a) i
abbrev z_win_20 (a : DkW) (i : Nat) : Int := (z_win_19 a i).mi
abbrev z_win_21 (a : DkW) (i : Nat) : Span := (z_win_19 a i).t
abbrev z_win_22 (a : DkW) (i : Nat) : Int := (z_win_21 a i).lo
abbrev z_win_23 (a : DkW) (i : Nat) : Int := (gD a.w.c.ns i).t.lo
abbrev z_win_24 (a : DkW) (i : Nat) : Int := (z_win_21 a i).hi
abbrev z_win_25 (a : DkW) (i : Nat) : Int := (gD a.w.c.ns i).t.hi
abbrev z_win_26 (a : DkW) (i : Nat) : Span := (z_win_19 a i).s
abbrev z_win_27 (a : DkW) (i : Nat) : Int := (z_win_26 a i).lo
abbrev z_win_28 (a : DkW) (i : Nat) : Int := (gD a.w.c.ns i).s.lo
abbrev z_win_29 (a : DkW) (i : Nat) : Int := (z_win_26 a i).hi
abbrev z_win_30 (a : DkW) (i : Nat) : Int := (gD a.w.c.ns i).s.hi
abbrev z_win_31 (a : DkW) : Prop := ∀ (i : Nat), i < z_win_17 a -> z_win_20 a i = (gD a.w.c.ns i).mi /\ z_win_22 a i = z_win_23 a i /\ z_win_24 a i = z_win_25 a i /\ z_win_27 a i = z_win_28 a i /\ z_win_29 a i = z_win_30 a i
abbrev z_win_32 (a : DkW) : Prop := ∀ (i : Nat), i < 40 -> a.w.sp i = a.w.sp i
abbrev z_win_33 (a : DkW) (n : Int) : Bool := hasN (z_win_16 a) n
abbrev z_win_34 (a : DkW) : Prop := ∀ (n : Int), z_win_33 a n = hasN a.w.c.ns n
abbrev z_win_35 (a : DkW) : Prop := ∀ (n : Int), a.w.st n = a.w.st n
abbrev z_win_36 (a : DkW) (n : Int) : Nt := ntOf (z_win_16 a) n
abbrev z_win_37 (a : DkW) (n : Int) : Int := (z_win_36 a n).mi
abbrev z_win_38 (a : DkW) (n : Int) : Span := (z_win_36 a n).t
abbrev z_win_39 (a : DkW) (n : Int) : Int := (z_win_38 a n).lo
abbrev z_win_40 (a : DkW) (n : Int) : Int := (z_win_38 a n).hi
abbrev z_win_41 (a : DkW) (n : Int) : Span := (z_win_36 a n).s
abbrev z_win_42 (a : DkW) (n : Int) : Int := (z_win_41 a n).lo
abbrev z_win_43 (a : DkW) (n : Int) : Int := (z_win_41 a n).hi
abbrev z_win_44 (a : DkW) : Prop := ∀ (n : Int), z_win_37 a n = (ntOf a.w.c.ns n).mi /\ z_win_39 a n = (ntOf a.w.c.ns n).t.lo /\ z_win_40 a n = (ntOf a.w.c.ns n).t.hi /\ z_win_42 a n = (ntOf a.w.c.ns n).s.lo /\ z_win_43 a n
 = (ntOf a.w.c.ns n).s.hi
abbrev z_win_45 (a : DkW) : Prop := a.w.c.ms.length = z_win_10 a
abbrev z_win_46 (i : Nat) (a : DkW) : Prop := i < a.w.c.ms.length
abbrev z_win_47 (a : DkW) : Prop := ∀ (i : Nat), z_win_46 i a -> (gD a.w.c.ms i).pl = z_win_13 a i /\ (gD a.w.c.ms i).ht = z_win_14 a i
abbrev z_win_48 (a : DkW) : Prop := a.w.c.ns.length = z_win_17 a
abbrev z_win_49 (i : Nat) (a : DkW) : Prop := i < a.w.c.ns.length
abbrev z_win_50 (a : DkW) : Prop := ∀ (i : Nat), z_win_49 i a -> (gD a.w.c.ns i).mi = z_win_20 a i /\ z_win_23 a i = z_win_22 a i /\ z_win_25 a i = z_win_24 a i /\ z_win_28 a i = z_win_27 a i /\ z_win_30 a i = z_win_29 a i
abbrev z_win_51 (a : DkW) : Prop := ∀ (n : Int), hasN a.w.c.ns n = z_win_33 a n
abbrev z_win_52 (a : DkW) : Prop := ∀ (n : Int), (ntOf a.w.c.ns n).mi = z_win_37 a n /\ (ntOf a.w.c.ns n).t.lo = z_win_39 a n /\ (ntOf a.w.c.ns n).t.hi = z_win_40 a n /\ (ntOf a.w.c.ns n).s.lo = z_win_42 a n /\ (ntOf
 a.w.c.ns n).s.hi = z_win_43 a n
abbrev z_win_53 (a : DkW) : List Span := parL (z_win_0 a) a.a (z_win_3 a) a.x
abbrev z_win_54 (a : DkW) : Nat := (z_win_53 a).length
abbrev z_win_55 (a : DkW) (i : Nat) : Span := gD (z_win_53 a) i
abbrev z_win_56 (a : DkW) : List Span := rng (z_win_54 a) λ (i : Nat) => z_win_55 a i
abbrev z_win_57 (a : DkW) : Nat := (z_win_56 a).length
abbrev z_win_58 (a : DkW) (i : Nat) : Span := gD (z_win_56 a) i
abbrev z_win_59 (a : DkW) : Int := IntKind.i64.wrap (a.b + 1)
abbrev z_win_60 (a : DkW) : Int := IntKind.i64.wrap (a.y + 1)
abbrev z_win_61 (a : DkW) : List Span := winL a.l a.a a.b a.x a.y
abbrev z_win_62 (a : DkW) : Nat := (z_win_61 a).length
abbrev z_win_63 (a : DkW) : List Span := parL (z_win_56 a) (z_win_59 a) a.y (z_win_60 a)
abbrev z_win_64 (a : DkW) (i : Nat) : Span := gD (z_win_61 a) i
abbrev z_win_65 (a : DkW) (i : Nat) : Span := gD (z_win_63 a) i
theorem vc_win (a : DkW) : (V_win a) = ((z_win_1 a = a.l.length /\ (∀ (i : Nat), i < z_win_1 a -> (z_win_2 a i).lo = (gD a.l i).lo /\ (z_win_2 a i).hi = (gD a.l i).hi) /\ a.a = a.a /\ z_win_3 a = z_win_3 a /\ a.x = a.x /\
 z_win_4 a /\ z_win_5 a /\ z_win_6 a /\ z_win_7 a /\ z_win_8 a /\ z_win_11 a /\ z_win_15 a /\ z_win_18 a /\ z_win_31 a /\ z_win_32 a /\ zNt = zNt /\ z_win_34 a /\ z_win_35 a /\ z_win_44 a /\ z_win_4 a /\ z_win_5 a /\ z_win_6 a /\ z_win_7
 a /\ z_win_8 a /\ z_win_45 a /\ z_win_47 a /\ z_win_48 a /\ z_win_50 a /\ z_win_32 a /\ zNt = zNt /\ z_win_51 a /\ z_win_35 a /\ z_win_52 a /\ (1 <= z_win_1 a /\ z_win_1 a <= 40) /\ 0 <= a.a /\ a.a <= (↑(z_win_1 a) : Int)) /\ (z_win_57 a =
 z_win_54 a /\ (∀ (i : Nat), i < z_win_57 a -> (z_win_58 a i).lo = (z_win_55 a i).lo /\ (z_win_58 a i).hi = (z_win_55 a i).hi) /\ z_win_59 a = z_win_59 a /\ a.y = a.y /\ z_win_60 a = z_win_60 a /\ z_win_4 a /\ z_win_5 a /\ z_win_6
 a /\ z_win_7 a /\ z_win_8 a /\ z_win_11 a /\ z_win_15 a /\ z_win_18 a /\ z_win_31 a /\ z_win_32 a /\ zNt = zNt /\ z_win_34 a /\ z_win_35 a /\ z_win_44 a /\ z_win_4 a /\ z_win_5 a /\ z_win_6 a /\ z_win_7 a /\ z_win_8 a /\ z_win_45 a /\
 z_win_47 a /\ z_win_48 a /\ z_win_50 a /\ z_win_32 a /\ zNt = zNt /\ z_win_51 a /\ z_win_35 a /\ z_win_52 a /\ (1 <= z_win_57 a /\ z_win_57 a <= 40) /\ 0 <= z_win_59 a /\ z_win_59 a <= (↑(z_win_57 a) : Int)) /\ z_win_62 a = (z_win_63
 a).length /\ (∀ (i : Nat), i < z_win_62 a -> (z_win_64 a i).lo = (z_win_65 a i).lo /\ (z_win_64 a i).hi = (z_win_65 a i).hi) /\ z_win_4 a /\ z_win_5 a /\ z_win_6 a /\ z_win_7 a /\ z_win_8 a /\ a.w.c.ms.length = a.w.c.ms.length /\
 (∀ (i : Nat), z_win_46 i a -> (gD a.w.c.ms i).pl = (gD a.w.c.ms i).pl /\ (gD a.w.c.ms i).ht = (gD a.w.c.ms i).ht) /\ a.w.c.ns.length = a.w.c.ns.length /\ (∀ (i : Nat), z_win_49 i a -> (gD a.w.c.ns i).mi = (gD a.w.c.ns i).mi /\
 z_win_23 a i = z_win_23 a i /\ z_win_25 a i = z_win_25 a i /\ z_win_28 a i = z_win_28 a i /\ z_win_30 a i = z_win_30 a i) /\ z_win_32 a /\ zNt = zNt /\ (∀ (n : Int), hasN a.w.c.ns n = hasN a.w.c.ns n) /\ z_win_35 a /\ ∀ (n :
 Int), (ntOf a.w.c.ns n).mi = (ntOf a.w.c.ns n).mi /\ (ntOf a.w.c.ns n).t.lo = (ntOf a.w.c.ns n).t.lo /\ (ntOf a.w.c.ns n).t.hi = (ntOf a.w.c.ns n).t.hi /\ (ntOf a.w.c.ns n).s.lo = (ntOf a.w.c.ns n).s.lo /\ (ntOf a.w.c.ns
 n).s.hi = (ntOf a.w.c.ns n).s.hi) := by kernel_rfl
theorem ok_win : SpecOk Try.prog n_within (C_win.spec dDkW) := okC C_win (λ _ => A_win) [] [] fn_within (λ _ => by kernel_rfl) (λ _ => gok_cons ok_part gok_nil) (λ (a : DkW) h => by
 obtain ⟨⟨h1, h2⟩, ⟨h3, h4⟩, h5, h6⟩ : (1 <= a.l.length /\ a.l.length <= 40) /\ (0 <= a.a /\ a.a < a.l.length) /\ 0 <= a.b /\ a.b < a.l.length := h
 have e : IntKind.i64.wrap (a.b + 1) = a.b + 1 := w64 (by omega) (by omega)
 show V_win a; rw [vc_win]; delta z_win_0 z_win_1 z_win_2 z_win_3 z_win_4 z_win_5 z_win_6 z_win_7 z_win_8 z_win_9 z_win_10 z_win_11 z_win_12 z_win_13 z_win_14 z_win_15 z_win_16 z_win_17 z_win_18 z_win_19 z_win_20 z_win_21 z_win_22 z_win_23 z_win_24 z_win_25 z_win_26 z_win_27 z_win_28 z_win_29 z_win_30 z_win_31 z_win_32 z_win_33 z_win_34 z_win_35 z_win_36 z_win_37 z_win_38 z_win_39 z_win_40 z_win_41 z_win_42 z_win_43 z_win_44 z_win_45 z_win_46 z_win_47 z_win_48 z_win_49 z_win_50 z_win_51 z_win_52 z_win_53 z_win_54 z_win_55 z_win_56 z_win_57 z_win_58 z_win_59 z_win_60 z_win_61 z_win_62 z_win_63 z_win_64 z_win_65; simp only [condP, eq_self, implies_true, and_self, true_and, and_true, true_implies, forall_const, decide_eq_true_eq, decide_eq_false_iff_not, Int.toNat_natCast, dSpan_eSpan, dInt_eInt, dMk_e, dNt_e, dPr_e, Nat.zero_add, Int.zero_sub, Nat.le_eq, Nat.succ_eq_add_one, Nat.add_one_le_iff, Bool.not_eq_true', Bool.not_eq_false', rng_length, dSpan_mk, rng_getD]; simp only [parL_len]
 refine ⟨⟨⟨by omega, h2⟩, h3, by omega⟩, ⟨⟨by omega, h2⟩, by omega, by omega⟩, ?_⟩
 have : winL a.l a.a a.b a.x a.y = parL (parL a.l a.a (IntKind.i64.wrap (a.x - 1)) a.x) (IntKind.i64.wrap (a.b + 1)) a.y (IntKind.i64.wrap (a.y + 1)) := rfl
 rw [this]; simp only [parL_len]
 simp) (λ _ => noI rfl rfl) _
def V_least1 (s : Span) : Prop := fnVC Try.prog (ann 5 []) F_least1 (bodyOf F_least1) (xS1 s) (heapOf []) (.int s.lo) [] [] []
theorem vc_least1 (s : Span) : (V_least1 s) = (s.lo = s.lo) := by kernel_rfl
def s_least1 := pD dS1 λ s => .int s.lo
def V_most1 (s : Span) : Prop := fnVC Try.prog (ann 5 []) F_most1 (bodyOf F_most1) (xS1 s) (heapOf []) (.int s.hi) [] [] []
theorem vc_most1 (s : Span) : (V_most1 s) = (s.hi = s.hi) := by kernel_rfl
def s_most1 := pD dS1 λ s => .int s.hi
def C_least : Ctr := { α := One, xs := λ _ => [], val := λ _ => .agg [.fn (.func n_least1) [] []], keep := λ _ => [] }
def dN0c : List AVal -> Heap -> Option (One × List (Nat × Nat) × List Nat)
 | [], _ => some (default, [], [])
 | _, _ => none
def C_most : Ctr := { α := One, xs := λ _ => [], val := λ _ => .agg [.fn (.func n_most1) [] []], keep := λ _ => [] }
def V_least (x : One) : Prop := fnVC Try.prog (ann 2 []) F_least (bodyOf F_least) [] (heapOf []) (C_least.val x) [] [] []
theorem vc_least (x : One) : (V_least x) = (True) := by kernel_rfl
def V_most (x : One) : Prop := fnVC Try.prog (ann 2 []) F_most (bodyOf F_most) [] (heapOf []) (C_most.val x) [] [] []
theorem vc_most (x : One) : (V_most x) = (True) := by kernel_rfl
theorem ok_least1 : SpecOk Try.prog n_least1 s_least1 := pD_ok xS1 hS1 λ x _ => fnt (A := ann 5 []) (ren := []) (fz := []) fn_least1 (by kernel_rfl) gok_nil (by
 show V_least1 x; rw [vc_least1]; try simp)
theorem ok_most1 : SpecOk Try.prog n_most1 s_most1 := pD_ok xS1 hS1 λ x _ => fnt (A := ann 5 []) (ren := []) (fz := []) fn_most1 (by kernel_rfl) gok_nil (by
 show V_most1 x; rw [vc_most1]; try simp)
theorem ok_least : SpecOk Try.prog n_least (C_least.spec dN0c) := okC C_least (λ _ => ann 2 []) [] [] fn_least (λ _ => by kernel_rfl) (λ _ => gok_nil) (λ (x : One) _ => by
 show V_least x; rw [vc_least]; try simp) (λ _ => noI rfl rfl) _
theorem ok_most : SpecOk Try.prog n_most (C_most.spec dN0c) := okC C_most (λ _ => ann 2 []) [] [] fn_most (λ _ => by kernel_rfl) (λ _ => gok_nil) (λ (x : One) _ => by
 show V_most x; rw [vc_most]; try simp) (λ _ => noI rfl rfl) _
def gLo (l : List Span) : Int := (l.map (·.lo)).foldl maxI (gD l 0).lo
def gHi (l : List Span) : Int := (l.map (·.hi)).foldl maxI (gD l 0).hi
def C_grL : Ctr := { α := List Span, xs := λ l => [.agg [.fn (.func n_least1) [] []], .d (eSpans l)], val := λ l => .int (gLo l), keep := λ _ => [], pre := λ l => [0 < l.length /\ l.length < 1073741824] }
def C_grH : Ctr := { α := List Span, xs := λ l => [.agg [.fn (.func n_most1) [] []], .d (eSpans l)], val := λ l => .int (gHi l), keep := λ _ => [], pre := λ l => [0 < l.length /\ l.length < 1073741824] }
def d_grL : List AVal -> Heap -> Option (List Span × List (Nat × Nat) × List Nat)
 | [.agg [.fn (.func f) _ _], y], H => if f = n_least1 then match dSpans y H with
  | some (l, f) => some (l, [], f)
  | none => none else none
 | _, _ => none
def d_grH : List AVal -> Heap -> Option (List Span × List (Nat × Nat) × List Nat)
 | [.agg [.fn (.func f) _ _], y], H => if f = n_most1 then match dSpans y H with
  | some (l, f) => some (l, [], f)
  | none => none else none
 | _, _ => none
def gr3 (l : List Span) (v : AVal) (f : List Int) : Shape := { α := NI, dflt := default, T := λ s => ⟨[(2, .bptr 201 0), (5, .int s.m), (14, .d (eSpans l)), (15, .int l.length), (16, .int s.k)], [(201, .live (.box [v]))]⟩, inv := λ s => s.k <= l.length /\ s.m = (f.take s.k).foldl maxI (gD f 0), meas := λ s => l.length - s.k, first := [(201, 1000)] }
def A_grL (l : List Span) : Ann := { ann 28 [(n_least1, s_least1)] with loops := λ id => if id = 3 then some [gr3 l (.fn (.func n_least1) [] []) (l.map (·.lo))] else none }
def V_grL (l : List Span) : Prop := fnVC Try.prog (A_grL l) F_greatest (bodyOf F_greatest) (C_grL.xs l) (heapOf []) (C_grL.val l) [] [] []
theorem vc_grL (l : List Span) : (V_grL l) = (((0 : Int) <= (0 : Int) /\ (0 : Int) < (↑l.length : Int)) /\ (∃ (a : NI), (a.m = (gD l (Int.toNat (0 : Int))).lo /\ l.length = l.length /\ (∀ (i : Nat), i < l.length -> (gD l i).lo
 = (gD l i).lo /\ (gD l i).hi = (gD l i).hi) /\ (↑l.length : Int) = (↑l.length : Int) /\ (↑a.k : Int) = (0 : Int)) /\ a.k <= l.length /\ a.m = List.foldl maxI (gD (List.map (λ (x : Span) => x.lo) l) (0 : Nat)) (List.take a.k
 (List.map (λ (x : Span) => x.lo) l))) /\ ∀ (a : NI), a.k <= l.length /\ a.m = List.foldl maxI (gD (List.map (λ (x : Span) => x.lo) l) (0 : Nat)) (List.take a.k (List.map (λ (x : Span) => x.lo) l)) -> bif decide ((↑a.k
 : Int) < (↑l.length : Int)) then ((0 : Int) <= (↑a.k : Int) /\ (↑a.k : Int) < (↑l.length : Int)) /\ ∃ (a_2 : NI), (a_2.m = maxI a.m (gD l a.k).lo /\ l.length = l.length /\ (∀ (i : Nat), i < l.length -> (gD l i).lo = (gD l
 i).lo /\ (gD l i).hi = (gD l i).hi) /\ (↑l.length : Int) = (↑l.length : Int) /\ (↑a_2.k : Int) = IntKind.i64.wrap ((↑a.k : Int) + (1 : Int))) /\ (a_2.k <= l.length /\ a_2.m = List.foldl maxI (gD (List.map (λ (x : Span) =>
 x.lo) l) (0 : Nat)) (List.take a_2.k (List.map (λ (x : Span) => x.lo) l))) /\ l.length - a_2.k < l.length - a.k else gLo l = a.m) := by kernel_rfl
def A_grH (l : List Span) : Ann := { ann 28 [(n_most1, s_most1)] with loops := λ id => if id = 3 then some [gr3 l (.fn (.func n_most1) [] []) (l.map (·.hi))] else none }
def V_grH (l : List Span) : Prop := fnVC Try.prog (A_grH l) F_greatest (bodyOf F_greatest) (C_grH.xs l) (heapOf []) (C_grH.val l) [] [] []
theorem vc_grH (l : List Span) : (V_grH l) = (((0 : Int) <= (0 : Int) /\ (0 : Int) < (↑l.length : Int)) /\ (∃ (a : NI), (a.m = (gD l (Int.toNat (0 : Int))).hi /\ l.length = l.length /\ (∀ (i : Nat), i < l.length -> (gD l i).lo
 = (gD l i).lo /\ (gD l i).hi = (gD l i).hi) /\ (↑l.length : Int) = (↑l.length : Int) /\ (↑a.k : Int) = (0 : Int)) /\ a.k <= l.length /\ a.m = List.foldl maxI (gD (List.map (λ (x : Span) => x.hi) l) (0 : Nat)) (List.take a.k
 (List.map (λ (x : Span) => x.hi) l))) /\ ∀ (a : NI), a.k <= l.length /\ a.m = List.foldl maxI (gD (List.map (λ (x : Span) => x.hi) l) (0 : Nat)) (List.take a.k (List.map (λ (x : Span) => x.hi) l)) -> bif decide ((↑a.k
 : Int) < (↑l.length : Int)) then ((0 : Int) <= (↑a.k : Int) /\ (↑a.k : Int) < (↑l.length : Int)) /\ ∃ (a_2 : NI), (a_2.m = maxI a.m (gD l a.k).hi /\ l.length = l.length /\ (∀ (i : Nat), i < l.length -> (gD l i).lo = (gD l
 i).lo /\ (gD l i).hi = (gD l i).hi) /\ (↑l.length : Int) = (↑l.length : Int) /\ (↑a_2.k : Int) = IntKind.i64.wrap ((↑a.k : Int) + (1 : Int))) /\ (a_2.k <= l.length /\ a_2.m = List.foldl maxI (gD (List.map (λ (x : Span) =>
 x.hi) l) (0 : Nat)) (List.take a_2.k (List.map (λ (x : Span) => x.hi) l))) /\ l.length - a_2.k < l.length - a.k else gHi l = a.m) := by kernel_rfl
theorem map_0 {f : Span -> Int} {l : List Span} (h : 0 < l.length) : gD (l.map f) 0 = f (gD l 0) := gD_map f h
theorem ok_grL : SpecOk Try.prog n_greatest (C_grL.spec d_grL) := okC C_grL A_grL [] [] fn_greatest (λ _ => by kernel_rfl) (λ _ => gok_cons ok_least1 gok_nil) (λ (l : List Span) h => by
 obtain ⟨h1, h2⟩ : 0 < l.length /\ l.length < 1073741824 := h
 show V_grL l; rw [vc_grL]; simp only [condP, eq_self, implies_true, and_self, true_and, and_true, true_implies, forall_const, decide_eq_true_eq, decide_eq_false_iff_not, Int.toNat_natCast, dSpan_eSpan, dInt_eInt, dMk_e, dNt_e, dPr_e, Nat.zero_add, Int.zero_sub, Nat.le_eq, Nat.succ_eq_add_one, Nat.add_one_le_iff, Bool.not_eq_true', Bool.not_eq_false', rng_length, dSpan_mk, rng_getD, Int.toNat_zero]
 refine ⟨⟨by omega, by omega⟩, ⟨⟨0, (gD l 0).lo⟩, ⟨rfl, rfl⟩, Nat.zero_le _, by rw [map_0 h1]; rfl⟩, λ s ⟨s1, s2⟩ => ⟨λ hlt => ⟨by omega, ⟨s.k + 1, maxI s.m (gD l s.k).lo⟩, ⟨rfl, (wsucc (by omega)).symm⟩, ⟨by show s.k + 1 <= _; omega, ?_⟩, by show l.length - (s.k + 1) < _; omega⟩, λ hge => ?_⟩⟩
 ·show maxI s.m (gD l s.k).lo = _
  rw [take_snoc (by simp; omega), List.foldl_append, <- s2, gD_map _ (by omega)]; rfl
 ·rw [s2, List.take_of_length_le (by simp; omega), map_0 h1]; rfl) (λ _ => noI rfl rfl) _
theorem ok_grH : SpecOk Try.prog n_greatest (C_grH.spec d_grH) := okC C_grH A_grH [] [] fn_greatest (λ _ => by kernel_rfl) (λ _ => gok_cons ok_most1 gok_nil) (λ (l : List Span) h => by
 obtain ⟨h1, h2⟩ : 0 < l.length /\ l.length < 1073741824 := h
 show V_grH l; rw [vc_grH]; simp only [condP, eq_self, implies_true, and_self, true_and, and_true, true_implies, forall_const, decide_eq_true_eq, decide_eq_false_iff_not, Int.toNat_natCast, dSpan_eSpan, dInt_eInt, dMk_e, dNt_e, dPr_e, Nat.zero_add, Int.zero_sub, Nat.le_eq, Nat.succ_eq_add_one, Nat.add_one_le_iff, Bool.not_eq_true', Bool.not_eq_false', rng_length, dSpan_mk, rng_getD, Int.toNat_zero]
 refine ⟨⟨by omega, by omega⟩, ⟨⟨0, (gD l 0).hi⟩, ⟨rfl, rfl⟩, Nat.zero_le _, by rw [map_0 h1]; rfl⟩, λ s ⟨s1, s2⟩ => ⟨λ hlt => ⟨by omega, ⟨s.k + 1, maxI s.m (gD l s.k).hi⟩, ⟨rfl, (wsucc (by omega)).symm⟩, ⟨by show s.k + 1 <= _; omega, ?_⟩, by show l.length - (s.k + 1) < _; omega⟩, λ hge => ?_⟩⟩
 ·show maxI s.m (gD l s.k).hi = _
  rw [take_snoc (by simp; omega), List.foldl_append, <- s2, gD_map _ (by omega)]; rfl
 ·rw [s2, List.take_of_length_le (by simp; omega), map_0 h1]; rfl) (λ _ => noI rfl rfl) _
end Go.Bal
