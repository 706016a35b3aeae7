/- Package chart: spans joined; times parted. -/
import Derived.Test.YtdbjalgfomknhaaChG3
set_option linter.unusedVariables false
set_option linter.unusedSimpArgs false
namespace Go.Bal
open Go Go.Sym Go.Proofs
structure Hul where
 s : Span
 m : Bool
 deriving Inhabited
def hlB (h : Hul) : AObj := .box [.int h.s.lo, .int h.s.hi, .bool h.m]
def RC (h : Hul) (s : Span) : Hul := ⟨⟨bif h.m then RN s.lo h.s.lo else s.lo, bif h.m then DD s.hi h.s.hi else s.hi⟩, true⟩
structure HuS where
 h : Hul
 s : Span
def DMO (H : Heap) (id : Nat) : Option Hul := match H id with
 | .live (.box [.d a, .d b, .d c]) => some ⟨⟨BV a, BV b⟩, DUA c⟩
 | _ => none
def dHuS : List AVal -> Heap -> Option (HuS × List (Nat × Nat) × List Nat)
 | [.bptr id _, .d s], H => match DMO H id with
  | some h => some (⟨h, RS s⟩, [(100, id)], [])
  | none => none
 | _, _ => none
def C_hadd : Ctr := { α := HuS, xs := λ a => [.bptr 100 0, .d (CH a.s)], L := λ a => [(100, hlB a.h)], val := λ _ => .d (.tup []), keep := λ a => [(100, .live (hlB (RC a.h a.s)))] }
def DDC : Ann := { ann 32 [] with E := [100] }
def DGZ (a : HuS) : Prop := BA Try.prog DDC CVS (AL CVS) (C_hadd.xs a) (AG (C_hadd.L a)) (C_hadd.val a) (C_hadd.keep a) [] []
theorem DLU (a : HuS) : (DGZ a) = (bif a.h.m then (RC a.h a.s).s.lo = RN a.s.lo a.h.s.lo /\ (RC a.h a.s).s.hi = DD a.s.hi a.h.s.hi /\ true = true else (RC a.h a.s).s.lo = a.s.lo /\ (RC a.h a.s).s.hi =
 a.s.hi /\ true = true) := by kernel_rfl
theorem CJS : AN Try.prog AMH (C_hadd.spec dHuS) := MB C_hadd (λ _ => DDC) [] [] DKJ (λ _ => by kernel_rfl) (λ _ => AI) (λ (a : HuS) _ => by
 show DGZ a; rw [DLU]; simp only [AU, eq_self, implies_true, and_self, true_and, and_true, true_implies, forall_const, decide_eq_true_eq, decide_eq_false_iff_not, Int.toNat_natCast, dSpan_eSpan, dInt_eInt, AY, AW, AX, Nat.zero_add, Int.zero_sub, Nat.le_eq, Nat.succ_eq_add_one, Nat.add_one_le_iff, Bool.not_eq_true', Bool.not_eq_false', rng_length, AK, AJ]
 refine ⟨λ h => ?_, λ h => ?_⟩ <;> · unfold RC; rw [h]; exact ⟨rfl, rfl⟩) (λ _ => OS rfl rfl) _
def MG (h : Hul) : Span × Int := bif h.m then (h.s, 0) else (⟨0, 0⟩, 5)
def dHu1 : List AVal -> Heap -> Option (Hul × List (Nat × Nat) × List Nat)
 | [.bptr id _], H => match DMO H id with
  | some h => some (h, [(100, id)], [])
  | none => none
 | _, _ => none
def C_who : Ctr := { ro := [100], α := Hul, xs := λ _ => [.bptr 100 0], L := λ h => [(100, hlB h)], val := λ h => .tup [.d (CH (MG h).1), .int (MG h).2], keep := λ h => [(100, .live (hlB h))] }
def DNL : Ann := { ann 14 [] with E := [100] }
def DNT (h : Hul) : Prop := BA Try.prog DNL CHS (AL CHS) (C_who.xs h) (AG (C_who.L h)) (C_who.val h) (C_who.keep h) [] []
theorem DQE (h : Hul) : (DNT h) = (bif !h.m then (MG h).fst.lo = 0 /\ (MG h).fst.hi = 0 /\ (MG h).snd = 5 /\ h.s.lo = h.s.lo /\ h.s.hi = h.s.hi /\ h.m = h.m else (MG h).fst.lo = h.s.lo /\ (MG h).fst.hi = h.s.hi
 /\ (MG h).snd = 0 /\ h.s.lo = h.s.lo /\ h.s.hi = h.s.hi /\ h.m = h.m) := by kernel_rfl
theorem CWA : AN Try.prog AEO (C_who.spec dHu1) := MB C_who (λ _ => DNL) [] [] DFA (λ _ => by kernel_rfl) (λ _ => AI) (λ (h : Hul) _ => by
 show DNT h; rw [DQE]; simp only [AU, eq_self, implies_true, and_self, true_and, and_true, true_implies, forall_const, decide_eq_true_eq, decide_eq_false_iff_not, Int.toNat_natCast, dSpan_eSpan, dInt_eInt, AY, AW, AX, Nat.zero_add, Int.zero_sub, Nat.le_eq, Nat.succ_eq_add_one, Nat.add_one_le_iff, Bool.not_eq_true', Bool.not_eq_false', rng_length, AK, AJ]
 refine ⟨λ q => ?_, λ q => ?_⟩ <;> · unfold MG; rw [q]; exact ⟨rfl, rfl, rfl⟩) (λ _ => OS rfl rfl) _
structure DkQ where
 w : Dk
 l : List Span
 k : Int
 a : Int
 b : Int
def parM (l : List Span) (k a b : Int) (i : Nat) : Span := ⟨bif decide (i = k.toNat) && decide (k < l.length) then DD (gD l i).lo b else (gD l i).lo, bif decide (k > 0) && decide (i = (k - 1).toNat) then RN (gD l i).hi a else (gD l i).hi⟩
def parL (l : List Span) (k a b : Int) : List Span := AF l.length (parM l k a b)
def dDkQ : List AVal -> Heap -> Option (DkQ × List (Nat × Nat) × List Nat)
 | [.bptr id _, y, .d k, .d a, .d b], H => match rX H id, Db y H with
  | some (w, q), some (l, f) => some (⟨w, l, BV k, BV a, BV b⟩, [(100, id), (101, q)], f)
  | _, _ => none
 | _, _ => none
def C_part : Ctr := { ro := [100, 101], α := DkQ, xs := λ a => [.bptr 100 0, .d (AT a.l), .int a.k, .int a.a, .int a.b], L := λ a => dkL a.w, val := λ a => .d (AT (parL a.l a.k a.a a.b)), keep := λ a => dkK a.w, pre := λ a => [(1 <= a.l.length /\ a.l.length <= 40) /\ 0 <= a.k /\ a.k <= a.l.length] }
def DFF : Ann := { ann 45 [(AIA, C_clo.spec dSs1)] with E := [100, 101] }
def DHM (a : DkQ) : Prop := BA Try.prog DFF BZA (AL BZA) (C_part.xs a) (AG (C_part.L a)) (C_part.val a) (C_part.keep a) [] [2016]
abbrev Gu (a : DkQ) : List Span := AF a.l.length λ (i : Nat) => gD a.l i
abbrev GB (a : DkQ) : Nat := (Gu a).length
abbrev CAB (a : DkQ) (i : Nat) : Span := gD (Gu a) i
abbrev ACS (a : DkQ) : Int := IntKind.i64.wrap (a.k - 1)
abbrev CBN (a : DkQ) : Prop := 0 <= ACS a /\ ACS a < (↑(GB a) : Int)
abbrev Hh (a : DkQ) : Nat := 0 + (ACS a).toNat
abbrev CCD (a : DkQ) : Prop := a.k < (↑(GB a) : Int)
abbrev BPF (a : DkQ) : Bool := decide (CCD a)
abbrev BVU (a : DkQ) : Prop := 0 <= a.k /\ CCD a
abbrev Fb (a : DkQ) : Nat := 0 + a.k.toNat
abbrev AWD (a : DkQ) : Prop := BVU a /\ Fb a < GB a /\ BVU a /\ (Fb a).succ.le (GB a)
abbrev AVA (a : DkQ) : Nat := (parL a.l a.k a.a a.b).length
abbrev Ev (a : DkQ) : Prop := AVA a = GB a
abbrev Ff (a : DkQ) : Prop := 0 + GB a <= GB a
abbrev Is (j : Nat) (a : DkQ) : Prop := j < AVA a
abbrev ASE (a : DkQ) (j : Nat) : Span := gD (parL a.l a.k a.a a.b) j
abbrev Hp (a : DkQ) (j : Nat) : Int := (ASE a j).lo
abbrev fM (j : Nat) : Nat := 0 + j
abbrev Fh (j : Nat) (a : DkQ) : Bool := decide (fM j = Fb a)
abbrev AZM (a : DkQ) : Bool := decide (Fb a = Hh a)
abbrev ARL (a : DkQ) : Span := gD (Gu a) (Hh a)
abbrev AKN (a : DkQ) : Int := (ARL a).lo
abbrev AMQ (a : DkQ) : Span := gD (Gu a) (Fb a)
abbrev ALV (a : DkQ) : Int := (AMQ a).lo
abbrev ALC (j : Nat) (a : DkQ) : Bool := decide (fM j = Hh a)
abbrev AQI (a : DkQ) (j : Nat) : Span := gD (Gu a) (fM j)
abbrev iE (a : DkQ) (j : Nat) : Int := (AQI a j).lo
abbrev AVW (j : Nat) (a : DkQ) : Int := bif ALC j a then AKN a else iE a j
abbrev Dm (a : DkQ) (j : Nat) : Int := (ASE a j).hi
abbrev AVY (a : DkQ) : Int := RN (ARL a).hi a.a
abbrev AUH (a : DkQ) : Int := (AMQ a).hi
abbrev pM (a : DkQ) (j : Nat) : Int := (AQI a j).hi
abbrev AQM (j : Nat) (a : DkQ) : Int := bif ALC j a then AVY a else pM a j
abbrev ASL (a : DkQ) (i : Nat) : Int := (gD a.w.c.ns i).t.lo
abbrev ANC (a : DkQ) (i : Nat) : Int := (gD a.w.c.ns i).t.hi
abbrev ATI (a : DkQ) (i : Nat) : Int := (gD a.w.c.ns i).s.lo
abbrev BAR (a : DkQ) (i : Nat) : Int := (gD a.w.c.ns i).s.hi
abbrev Gy (a : DkQ) : Prop := a.w.c.p.lo = a.w.c.p.lo /\ a.w.c.p.hi = a.w.c.p.hi /\ a.w.c.base = a.w.c.base /\ a.w.c.scale = a.w.c.scale /\ a.w.c.off = a.w.c.off /\ a.w.c.ms.length = a.w.c.ms.length /\ (∀ (i : Nat), i <
 a.w.c.ms.length -> (gD a.w.c.ms i).pl = (gD a.w.c.ms i).pl /\ (gD a.w.c.ms i).ht = (gD a.w.c.ms i).ht) /\ a.w.c.ns.length = a.w.c.ns.length /\ (∀ (i : Nat), i < a.w.c.ns.length -> (gD a.w.c.ns i).mi = (gD a.w.c.ns i).mi /\
 ASL a i = ASL a i /\ ANC a i = ANC a i /\ ATI a i = ATI a i /\ BAR a i = BAR a i) /\ (∀ (i : Nat), i < 40 -> a.w.sp i = a.w.sp i) /\ AO = AO /\ (∀ (n : Int), hasN a.w.c.ns n =
 hasN a.w.c.ns n) /\ (∀ (n : Int), a.w.st n = a.w.st n) /\ ∀ (n : Int), (ntOf a.w.c.ns n).mi = (ntOf a.w.c.ns n).mi /\ (ntOf a.w.c.ns n).t.lo = (ntOf a.w.c.ns n).t.lo /\ (ntOf a.w.c.ns n).t.hi = (ntOf a.w.c.ns n).t.hi /\ (ntOf
 a.w.c.ns n).s.lo = (ntOf a.w.c.ns n).s.lo /\ (ntOf a.w.c.ns n).s.hi = (ntOf a.w.c.ns n).s.hi
theorem DLA (a : DkQ) : (DHM a) = ((GB a = a.l.length /\ (∀ (i : Nat), i < GB a -> (CAB a i).lo = (gD a.l i).lo /\ (CAB a i).hi = (gD a.l i).hi) /\ 0 < GB a /\ GB a < 1073741824) /\ bif
 decide (a.k > 0) then (CBN a /\ Hh a < GB a /\ CBN a /\ (Hh a).succ.le (GB a)) /\ bif BPF a then AWD a /\ Ev a /\ Ff a /\ (∀ (j : Nat), Is j a -> (Hp a j =
 bif Fh j a then DD (bif AZM a then AKN a else ALV a) a.b else AVW j a) /\ Dm a j = bif Fh j a then bif AZM a then AVY a else AUH a else AQM j a) /\
 Gy a else Ev a /\ Ff a /\ (∀ (j : Nat), Is j a -> Hp a j = AVW j a /\ Dm a j = AQM j a) /\ Gy a else bif BPF a then AWD a /\ Ev a /\ Ff a /\
 (∀ (j : Nat), Is j a -> (Hp a j = bif Fh j a then DD (ALV a) a.b else iE a j) /\ Dm a j = bif Fh j a then AUH a else pM a j) /\ Gy a else Ev a /\
 Ff a /\ (∀ (j : Nat), Is j a -> Hp a j = iE a j /\ Dm a j = pM a j) /\ Gy a) := by kernel_rfl
theorem Hv (l : List Span) (k a b : Int) : (parL l k a b).length = l.length := rng_length _ _
theorem CXW : AN Try.prog AEP (C_part.spec dDkQ) := MB C_part (λ _ => DFF) [] [2016] DAE (λ _ => by kernel_rfl) (λ _ => AD CVO AI) (λ (a : DkQ) h => by
 obtain ⟨⟨h1, h2⟩, h3, h4⟩ : (1 <= a.l.length /\ a.l.length <= 40) /\ 0 <= a.k /\ a.k <= a.l.length := h
 have e : IntKind.i64.wrap (a.k - 1) = a.k - 1 := EN (by omega) (by omega)
 have gj : ∀ {j : Nat}, j < a.l.length -> gD (parL a.l a.k a.a a.b) j = parM a.l a.k a.a a.b j := λ hj => BD _ _ _ hj
 have t : (a.k - 1).toNat = a.k.toNat - 1 := by omega
 show DHM a; rw [DLA]; delta Gu GB CAB ACS CBN Hh CCD BPF BVU Fb AWD AVA Ev Ff Is ASE Hp fM Fh AZM ARL AKN AMQ ALV ALC AQI iE AVW Dm AVY AUH pM AQM ASL ANC ATI BAR Gy; simp only [AU, eq_self, implies_true, and_self, true_and, and_true, true_implies, forall_const, decide_eq_true_eq, decide_eq_false_iff_not, Int.toNat_natCast, dSpan_eSpan, dInt_eInt, AY, AW, AX, Nat.zero_add, Int.zero_sub, Nat.le_eq, Nat.succ_eq_add_one, Nat.add_one_le_iff, Bool.not_eq_true', Bool.not_eq_false', rng_length, AK, AJ, e, Hv, t]
 refine ⟨⟨by omega, by omega⟩, λ hk => ⟨⟨⟨by omega, by omega⟩, by omega, ⟨by omega, by omega⟩, by omega⟩, λ hl => ⟨⟨⟨by omega, by omega⟩, by omega, ⟨by omega, by omega⟩, by omega⟩, Nat.le_refl _, λ j hj => ?_⟩, λ hl => ⟨Nat.le_refl _, λ j hj => ?_⟩⟩, λ hk => ⟨λ hl => ⟨⟨⟨by omega, by omega⟩, by omega, ⟨by omega, by omega⟩, by omega⟩, Nat.le_refl _, λ j hj => ?_⟩, λ hl => by omega⟩⟩
 ·rw [gj hj]; unfold parM; rw [t]
  have q0 : ¬ a.k.toNat = a.k.toNat - 1 := by omega
  by_cases q1 : j = a.k.toNat
  ·subst q1
   simp [hk, hl, q0]
  ·by_cases q2 : j = a.k.toNat - 1
   ·simp only [decide_eq_false q1, decide_eq_true q2, decide_eq_true hk, Bool.false_and, Bool.and_self, cond_true, cond_false]
    rw [q2]; exact ⟨rfl, rfl⟩
   ·simp [hk, q1, q2]
 ·rw [gj hj]; unfold parM; rw [t]
  by_cases q2 : j = a.k.toNat - 1
  ·simp only [decide_eq_true q2, decide_eq_true hk, decide_eq_false hl, Bool.and_false, Bool.and_self, cond_true, cond_false]
   rw [q2]; exact ⟨rfl, rfl⟩
  ·simp [hl, q2]
 ·rw [gj hj]; unfold parM; rw [t]
  by_cases q1 : j = a.k.toNat
  ·subst q1
   simp [hk, hl]
  ·simp [hk, q1]) (λ _ => OS rfl rfl) _
structure DkW where
 w : Dk
 l : List Span
 a : Int
 b : Int
 x : Int
 y : Int
def winL (l : List Span) (a b x y : Int) : List Span := parL (parL l a (wr (x - 1)) x) (wr (b + 1)) y (wr (y + 1))
def dDkW : List AVal -> Heap -> Option (DkW × List (Nat × Nat) × List Nat)
 | [.bptr id _, y, .d k, .d a, .d b, .d c], H => match rX H id, Db y H with
  | some (w, q), some (l, f) => some (⟨w, l, BV k, BV a, BV b, BV c⟩, [(100, id), (101, q)], f)
  | _, _ => none
 | _, _ => none
def C_win : Ctr := { ro := [100, 101], α := DkW, xs := λ a => [.bptr 100 0, .d (AT a.l), .int a.a, .int a.b, .int a.x, .int a.y], L := λ a => dkL a.w, val := λ a => .d (AT (winL a.l a.a a.b a.x a.y)), keep := λ a => dkK a.w, pre := λ a => [(1 <= a.l.length /\ a.l.length <= 40) /\ (0 <= a.a /\ a.a < a.l.length) /\ 0 <= a.b /\ a.b < a.l.length] }
def DOS : Ann := { ann 29 [(AEP, C_part.spec dDkQ)] with E := [100, 101] }
def DMG (a : DkW) : Prop := BA Try.prog DOS BQE (AL BQE) (C_win.xs a) (AG (C_win.L a)) (C_win.val a) (C_win.keep a) [] []
abbrev BKN (a : DkW) : List Span := AF a.l.length λ (i : Nat) => gD a.l i
abbrev lS (a : DkW) : Nat := (BKN a).length
abbrev CFU (a : DkW) (i : Nat) : Span := gD (BKN a) i
abbrev BIP (a : DkW) : Int := IntKind.i64.wrap (a.x - 1)
abbrev lA (a : DkW) : Prop := a.w.c.p.lo = a.w.c.p.lo
abbrev eQ (a : DkW) : Prop := a.w.c.p.hi = a.w.c.p.hi
abbrev fZ (a : DkW) : Prop := a.w.c.base = a.w.c.base
abbrev oF (a : DkW) : Prop := a.w.c.scale = a.w.c.scale
abbrev oB (a : DkW) : Prop := a.w.c.off = a.w.c.off
abbrev CIZ (a : DkW) : List Mk := AF a.w.c.ms.length λ (i : Nat) => gD a.w.c.ms i
abbrev ABU (a : DkW) : Nat := (CIZ a).length
abbrev BRG (a : DkW) : Prop := ABU a = a.w.c.ms.length
abbrev BSB (a : DkW) (i : Nat) : Mk := gD (CIZ a) i
abbrev BRL (a : DkW) (i : Nat) : Int := (BSB a i).pl
abbrev BOJ (a : DkW) (i : Nat) : Int := (BSB a i).ht
abbrev BPR (a : DkW) : Prop := ∀ (i : Nat), i < ABU a -> BRL a i = (gD a.w.c.ms i).pl /\ BOJ a i = (gD a.w.c.ms i).ht
abbrev Qz (a : DkW) : List Nt := AF a.w.c.ns.length λ (i : Nat) => gD a.w.c.ns i
abbrev AGM (a : DkW) : Nat := (Qz a).length
abbrev BMS (a : DkW) : Prop := AGM a = a.w.c.ns.length
abbrev AIV (a : DkW) (i : Nat) : Nt := gD (Qz a) i
abbrev BXQ (a : DkW) (i : Nat) : Int := (AIV a i).mi
abbrev CAR (a : DkW) (i : Nat) : Span := (AIV a i).t
abbrev BMK (a : DkW) (i : Nat) : Int := (CAR a i).lo
abbrev Sd (a : DkW) (i : Nat) : Int := (gD a.w.c.ns i).t.lo
abbrev BOT (a : DkW) (i : Nat) : Int := (CAR a i).hi
abbrev Zt (a : DkW) (i : Nat) : Int := (gD a.w.c.ns i).t.hi
abbrev BQS (a : DkW) (i : Nat) : Span := (AIV a i).s
abbrev BNV (a : DkW) (i : Nat) : Int := (BQS a i).lo
abbrev Uu (a : DkW) (i : Nat) : Int := (gD a.w.c.ns i).s.lo
abbrev BMD (a : DkW) (i : Nat) : Int := (BQS a i).hi
abbrev bE (a : DkW) (i : Nat) : Int := (gD a.w.c.ns i).s.hi
abbrev BXT (a : DkW) : Prop := ∀ (i : Nat), i < AGM a -> BXQ a i = (gD a.w.c.ns i).mi /\ BMK a i = Sd a i /\ BOT a i = Zt a i /\ BNV a i = Uu a i /\ BMD a i = bE a i
abbrev Eu (a : DkW) : Prop := ∀ (i : Nat), i < 40 -> a.w.sp i = a.w.sp i
abbrev CAJ (a : DkW) (n : Int) : Bool := hasN (Qz a) n
abbrev BUX (a : DkW) : Prop := ∀ (n : Int), CAJ a n = hasN a.w.c.ns n
abbrev Fq (a : DkW) : Prop := ∀ (n : Int), a.w.st n = a.w.st n
abbrev AFW (a : DkW) (n : Int) : Nt := ntOf (Qz a) n
abbrev BVF (a : DkW) (n : Int) : Int := (AFW a n).mi
abbrev BTN (a : DkW) (n : Int) : Span := (AFW a n).t
abbrev BTI (a : DkW) (n : Int) : Int := (BTN a n).lo
abbrev BRW (a : DkW) (n : Int) : Int := (BTN a n).hi
abbrev BZP (a : DkW) (n : Int) : Span := (AFW a n).s
abbrev BTD (a : DkW) (n : Int) : Int := (BZP a n).lo
abbrev BRY (a : DkW) (n : Int) : Int := (BZP a n).hi
abbrev CBV (a : DkW) : Prop := ∀ (n : Int), BVF a n = (ntOf a.w.c.ns n).mi /\ BTI a n = (ntOf a.w.c.ns n).t.lo /\ BRW a n = (ntOf a.w.c.ns n).t.hi /\ BTD a n = (ntOf a.w.c.ns n).s.lo /\ BRY a n
 = (ntOf a.w.c.ns n).s.hi
abbrev BYB (a : DkW) : Prop := a.w.c.ms.length = ABU a
abbrev BQJ (i : Nat) (a : DkW) : Prop := i < a.w.c.ms.length
abbrev BPS (a : DkW) : Prop := ∀ (i : Nat), BQJ i a -> (gD a.w.c.ms i).pl = BRL a i /\ (gD a.w.c.ms i).ht = BOJ a i
abbrev BPB (a : DkW) : Prop := a.w.c.ns.length = AGM a
abbrev BXN (i : Nat) (a : DkW) : Prop := i < a.w.c.ns.length
abbrev BTZ (a : DkW) : Prop := ∀ (i : Nat), BXN i a -> (gD a.w.c.ns i).mi = BXQ a i /\ Sd a i = BMK a i /\ Zt a i = BOT a i /\ Uu a i = BNV a i /\ bE a i = BMD a i
abbrev BPM (a : DkW) : Prop := ∀ (n : Int), hasN a.w.c.ns n = CAJ a n
abbrev BQM (a : DkW) : Prop := ∀ (n : Int), (ntOf a.w.c.ns n).mi = BVF a n /\ (ntOf a.w.c.ns n).t.lo = BTI a n /\ (ntOf a.w.c.ns n).t.hi = BRW a n /\ (ntOf a.w.c.ns n).s.lo = BTD a n /\ (ntOf
 a.w.c.ns n).s.hi = BRY a n
abbrev CAK (a : DkW) : List Span := parL (BKN a) a.a (BIP a) a.x
abbrev BPV (a : DkW) : Nat := (CAK a).length
abbrev ACC (a : DkW) (i : Nat) : Span := gD (CAK a) i
abbrev ADO (a : DkW) : List Span := AF (BPV a) λ (i : Nat) => ACC a i
abbrev Gw (a : DkW) : Nat := (ADO a).length
abbrev BSN (a : DkW) (i : Nat) : Span := gD (ADO a) i
abbrev Im (a : DkW) : Int := IntKind.i64.wrap (a.b + 1)
abbrev AHM (a : DkW) : Int := IntKind.i64.wrap (a.y + 1)
abbrev CAT (a : DkW) : List Span := winL a.l a.a a.b a.x a.y
abbrev BNB (a : DkW) : Nat := (CAT a).length
abbrev BUC (a : DkW) : List Span := parL (ADO a) (Im a) a.y (AHM a)
abbrev CBO (a : DkW) (i : Nat) : Span := gD (CAT a) i
abbrev CCP (a : DkW) (i : Nat) : Span := gD (BUC a) i
theorem DPT (a : DkW) : (DMG a) = ((lS a = a.l.length /\ (∀ (i : Nat), i < lS a -> (CFU a i).lo = (gD a.l i).lo /\ (CFU a i).hi = (gD a.l i).hi) /\ a.a = a.a /\ BIP a = BIP a /\ a.x = a.x /\
 lA a /\ eQ a /\ fZ a /\ oF a /\ oB a /\ BRG a /\ BPR a /\ BMS a /\ BXT a /\ Eu a /\ AO = AO /\ BUX a /\ Fq a /\ CBV a /\ lA a /\ eQ a /\ fZ a /\ oF
 a /\ oB a /\ BYB a /\ BPS a /\ BPB a /\ BTZ a /\ Eu a /\ AO = AO /\ BPM a /\ Fq a /\ BQM a /\ (1 <= lS a /\ lS a <= 40) /\ 0 <= a.a /\ a.a <= (↑(lS a) : Int)) /\ (Gw a =
 BPV a /\ (∀ (i : Nat), i < Gw a -> (BSN a i).lo = (ACC a i).lo /\ (BSN a i).hi = (ACC a i).hi) /\ Im a = Im a /\ a.y = a.y /\ AHM a = AHM a /\ lA a /\ eQ a /\ fZ
 a /\ oF a /\ oB a /\ BRG a /\ BPR a /\ BMS a /\ BXT a /\ Eu a /\ AO = AO /\ BUX a /\ Fq a /\ CBV a /\ lA a /\ eQ a /\ fZ a /\ oF a /\ oB a /\ BYB a /\
 BPS a /\ BPB a /\ BTZ a /\ Eu a /\ AO = AO /\ BPM a /\ Fq a /\ BQM a /\ (1 <= Gw a /\ Gw a <= 40) /\ 0 <= Im a /\ Im a <= (↑(Gw a) : Int)) /\ BNB a = (BUC
 a).length /\ (∀ (i : Nat), i < BNB a -> (CBO a i).lo = (CCP a i).lo /\ (CBO a i).hi = (CCP a i).hi) /\ lA a /\ eQ a /\ fZ a /\ oF a /\ oB a /\ a.w.c.ms.length = a.w.c.ms.length /\
 (∀ (i : Nat), BQJ i a -> (gD a.w.c.ms i).pl = (gD a.w.c.ms i).pl /\ (gD a.w.c.ms i).ht = (gD a.w.c.ms i).ht) /\ a.w.c.ns.length = a.w.c.ns.length /\ (∀ (i : Nat), BXN i a -> (gD a.w.c.ns i).mi = (gD a.w.c.ns i).mi /\
 Sd a i = Sd a i /\ Zt a i = Zt a i /\ Uu a i = Uu a i /\ bE a i = bE a i) /\ Eu a /\ AO = AO /\ (∀ (n : Int), hasN a.w.c.ns n = hasN a.w.c.ns n) /\ Fq a /\ ∀ (n :
 Int), (ntOf a.w.c.ns n).mi = (ntOf a.w.c.ns n).mi /\ (ntOf a.w.c.ns n).t.lo = (ntOf a.w.c.ns n).t.lo /\ (ntOf a.w.c.ns n).t.hi = (ntOf a.w.c.ns n).t.hi /\ (ntOf a.w.c.ns n).s.lo = (ntOf a.w.c.ns n).s.lo /\ (ntOf a.w.c.ns
 n).s.hi = (ntOf a.w.c.ns n).s.hi) := by kernel_rfl
theorem DRZ : AN Try.prog CBR (C_win.spec dDkW) := MB C_win (λ _ => DOS) [] [] DAG (λ _ => by kernel_rfl) (λ _ => AD CXW AI) (λ (a : DkW) h => by
 obtain ⟨⟨h1, h2⟩, ⟨h3, h4⟩, h5, h6⟩ : (1 <= a.l.length /\ a.l.length <= 40) /\ (0 <= a.a /\ a.a < a.l.length) /\ 0 <= a.b /\ a.b < a.l.length := h
 have e : IntKind.i64.wrap (a.b + 1) = a.b + 1 := EN (by omega) (by omega)
 show DMG a; rw [DPT]; delta BKN lS CFU BIP lA eQ fZ oF oB CIZ ABU BRG BSB BRL BOJ BPR Qz AGM BMS AIV BXQ CAR BMK Sd BOT Zt BQS BNV Uu BMD bE BXT Eu CAJ BUX Fq AFW BVF BTN BTI BRW BZP BTD BRY CBV BYB BQJ BPS BPB BXN BTZ BPM BQM CAK BPV ACC ADO Gw BSN Im AHM CAT BNB BUC CBO CCP; simp only [AU, eq_self, implies_true, and_self, true_and, and_true, true_implies, forall_const, decide_eq_true_eq, decide_eq_false_iff_not, Int.toNat_natCast, dSpan_eSpan, dInt_eInt, AY, AW, AX, Nat.zero_add, Int.zero_sub, Nat.le_eq, Nat.succ_eq_add_one, Nat.add_one_le_iff, Bool.not_eq_true', Bool.not_eq_false', rng_length, AK, AJ]; simp only [Hv]
 refine ⟨⟨⟨by omega, h2⟩, h3, by omega⟩, ⟨⟨by omega, h2⟩, by omega, by omega⟩, ?_⟩
 have : winL a.l a.a a.b a.x a.y = parL (parL a.l a.a (IntKind.i64.wrap (a.x - 1)) a.x) (IntKind.i64.wrap (a.b + 1)) a.y (IntKind.i64.wrap (a.y + 1)) := rfl
 rw [this]; simp only [Hv]
 simp) (λ _ => OS rfl rfl) _
def CPW (s : Span) : Prop := BA Try.prog (ann 5 []) BRF (AL BRF) (xS1 s) (AG []) (.int s.lo) [] [] []
theorem CZY (s : Span) : (CPW s) = (s.lo = s.lo) := by kernel_rfl
def CQE := pD dS1 λ s => .int s.lo
def CYO (s : Span) : Prop := BA Try.prog (ann 5 []) CHR (AL CHR) (xS1 s) (AG []) (.int s.hi) [] [] []
theorem DIK (s : Span) : (CYO s) = (s.hi = s.hi) := by kernel_rfl
def CZH := pD dS1 λ s => .int s.hi
def C_least : Ctr := { α := One, xs := λ _ => [], val := λ _ => .agg [.fn (.func WJ) [] []], keep := λ _ => [] }
def dN0c : List AVal -> Heap -> Option (One × List (Nat × Nat) × List Nat)
 | [], _ => some (default, [], [])
 | _, _ => none
def C_most : Ctr := { α := One, xs := λ _ => [], val := λ _ => .agg [.fn (.func Pc) [] []], keep := λ _ => [] }
def CXP (x : One) : Prop := BA Try.prog (ann 2 []) CHY (AL CHY) [] (AG []) (C_least.val x) [] [] []
theorem DCH (x : One) : (CXP x) = (True) := by kernel_rfl
def DCB (x : One) : Prop := BA Try.prog (ann 2 []) CSX (AL CSX) [] (AG []) (C_most.val x) [] [] []
theorem DIX (x : One) : (DCB x) = (True) := by kernel_rfl
theorem CZT : AN Try.prog WJ CQE := XL xS1 hS1 λ x _ => PJ (A := ann 5 []) (ren := []) (fz := []) DAL (by kernel_rfl) AI (by
 show CPW x; rw [CZY]; try simp)
theorem DDN : AN Try.prog Pc CZH := XL xS1 hS1 λ x _ => PJ (A := ann 5 []) (ren := []) (fz := []) DBD (by kernel_rfl) AI (by
 show CYO x; rw [DIK]; try simp)
theorem DHK : AN Try.prog CIS (C_least.spec dN0c) := MB C_least (λ _ => ann 2 []) [] [] DHC (λ _ => by kernel_rfl) (λ _ => AI) (λ (x : One) _ => by
 show CXP x; rw [DCH]; try simp) (λ _ => OS rfl rfl) _
theorem DIY : AN Try.prog CTS (C_most.spec dN0c) := MB C_most (λ _ => ann 2 []) [] [] DJS (λ _ => by kernel_rfl) (λ _ => AI) (λ (x : One) _ => by
 show DCB x; rw [DIX]; try simp) (λ _ => OS rfl rfl) _
def gLo (l : List Span) : Int := (l.map (·.lo)).foldl DD (gD l 0).lo
def gHi (l : List Span) : Int := (l.map (·.hi)).foldl DD (gD l 0).hi
def C_grL : Ctr := { α := List Span, xs := λ l => [.agg [.fn (.func WJ) [] []], .d (AT l)], val := λ l => .int (gLo l), keep := λ _ => [], pre := λ l => [0 < l.length /\ l.length < 1073741824] }
def C_grH : Ctr := { α := List Span, xs := λ l => [.agg [.fn (.func Pc) [] []], .d (AT l)], val := λ l => .int (gHi l), keep := λ _ => [], pre := λ l => [0 < l.length /\ l.length < 1073741824] }
def DNP : List AVal -> Heap -> Option (List Span × List (Nat × Nat) × List Nat)
 | [.agg [.fn (.func f) _ _], y], H => if f = WJ then match Db y H with
  | some (l, f) => some (l, [], f)
  | none => none else none
 | _, _ => none
def DOF : List AVal -> Heap -> Option (List Span × List (Nat × Nat) × List Nat)
 | [.agg [.fn (.func f) _ _], y], H => if f = Pc then match Db y H with
  | some (l, f) => some (l, [], f)
  | none => none else none
 | _, _ => none
def gr3 (l : List Span) (v : AVal) (f : List Int) : Shape := { α := NI, dflt := default, T := λ s => ⟨[(2, .bptr 201 0), (5, .int s.m), (14, .d (AT l)), (15, .int l.length), (16, .int s.k)], [(201, .live (.box [v]))]⟩, inv := λ s => s.k <= l.length /\ s.m = (f.take s.k).foldl DD (gD f 0), meas := λ s => l.length - s.k, first := [(201, 1000)] }
def DNX (l : List Span) : Ann := { ann 28 [(WJ, CQE)] with loops := λ id => if id = 3 then some [gr3 l (.fn (.func WJ) [] []) (l.map (·.lo))] else none }
def DNQ (l : List Span) : Prop := BA Try.prog (DNX l) XE (AL XE) (C_grL.xs l) (AG []) (C_grL.val l) [] [] []
theorem DQB (l : List Span) : (DNQ l) = (((0 : Int) <= (0 : Int) /\ (0 : Int) < (↑l.length : Int)) /\ (∃ (a : NI), (a.m = (gD l (Int.toNat (0 : Int))).lo /\ l.length = l.length /\ (∀ (i : Nat), i < l.length -> (gD l i).lo
 = (gD l i).lo /\ (gD l i).hi = (gD l i).hi) /\ (↑l.length : Int) = (↑l.length : Int) /\ (↑a.k : Int) = (0 : Int)) /\ a.k <= l.length /\ a.m = List.foldl DD (gD (List.map (λ (x : Span) => x.lo) l) (0 : Nat)) (List.take a.k
 (List.map (λ (x : Span) => x.lo) l))) /\ ∀ (a : NI), a.k <= l.length /\ a.m = List.foldl DD (gD (List.map (λ (x : Span) => x.lo) l) (0 : Nat)) (List.take a.k (List.map (λ (x : Span) => x.lo) l)) -> bif decide ((↑a.k
 : Int) < (↑l.length : Int)) then ((0 : Int) <= (↑a.k : Int) /\ (↑a.k : Int) < (↑l.length : Int)) /\ ∃ (a_2 : NI), (a_2.m = DD a.m (gD l a.k).lo /\ l.length = l.length /\ (∀ (i : Nat), i < l.length -> (gD l i).lo = (gD l
 i).lo /\ (gD l i).hi = (gD l i).hi) /\ (↑l.length : Int) = (↑l.length : Int) /\ (↑a_2.k : Int) = IntKind.i64.wrap ((↑a.k : Int) + (1 : Int))) /\ (a_2.k <= l.length /\ a_2.m = List.foldl DD (gD (List.map (λ (x : Span) =>
 x.lo) l) (0 : Nat)) (List.take a_2.k (List.map (λ (x : Span) => x.lo) l))) /\ l.length - a_2.k < l.length - a.k else gLo l = a.m) := by kernel_rfl
def DNI (l : List Span) : Ann := { ann 28 [(Pc, CZH)] with loops := λ id => if id = 3 then some [gr3 l (.fn (.func Pc) [] []) (l.map (·.hi))] else none }
def DNH (l : List Span) : Prop := BA Try.prog (DNI l) XE (AL XE) (C_grH.xs l) (AG []) (C_grH.val l) [] [] []
theorem DRU (l : List Span) : (DNH l) = (((0 : Int) <= (0 : Int) /\ (0 : Int) < (↑l.length : Int)) /\ (∃ (a : NI), (a.m = (gD l (Int.toNat (0 : Int))).hi /\ l.length = l.length /\ (∀ (i : Nat), i < l.length -> (gD l i).lo
 = (gD l i).lo /\ (gD l i).hi = (gD l i).hi) /\ (↑l.length : Int) = (↑l.length : Int) /\ (↑a.k : Int) = (0 : Int)) /\ a.k <= l.length /\ a.m = List.foldl DD (gD (List.map (λ (x : Span) => x.hi) l) (0 : Nat)) (List.take a.k
 (List.map (λ (x : Span) => x.hi) l))) /\ ∀ (a : NI), a.k <= l.length /\ a.m = List.foldl DD (gD (List.map (λ (x : Span) => x.hi) l) (0 : Nat)) (List.take a.k (List.map (λ (x : Span) => x.hi) l)) -> bif decide ((↑a.k
 : Int) < (↑l.length : Int)) then ((0 : Int) <= (↑a.k : Int) /\ (↑a.k : Int) < (↑l.length : Int)) /\ ∃ (a_2 : NI), (a_2.m = DD a.m (gD l a.k).hi /\ l.length = l.length /\ (∀ (i : Nat), i < l.length -> (gD l i).lo = (gD l
 i).lo /\ (gD l i).hi = (gD l i).hi) /\ (↑l.length : Int) = (↑l.length : Int) /\ (↑a_2.k : Int) = IntKind.i64.wrap ((↑a.k : Int) + (1 : Int))) /\ (a_2.k <= l.length /\ a_2.m = List.foldl DD (gD (List.map (λ (x : Span) =>
 x.hi) l) (0 : Nat)) (List.take a_2.k (List.map (λ (x : Span) => x.hi) l))) /\ l.length - a_2.k < l.length - a.k else gHi l = a.m) := by kernel_rfl
theorem CXJ {f : Span -> Int} {l : List Span} (h : 0 < l.length) : gD (l.map f) 0 = f (gD l 0) := CUS f h
theorem DPQ : AN Try.prog Pd (C_grL.spec DNP) := MB C_grL DNX [] [] BHO (λ _ => by kernel_rfl) (λ _ => AD CZT AI) (λ (l : List Span) h => by
 obtain ⟨h1, h2⟩ : 0 < l.length /\ l.length < 1073741824 := h
 show DNQ l; rw [DQB]; simp only [AU, eq_self, implies_true, and_self, true_and, and_true, true_implies, forall_const, decide_eq_true_eq, decide_eq_false_iff_not, Int.toNat_natCast, dSpan_eSpan, dInt_eInt, AY, AW, AX, Nat.zero_add, Int.zero_sub, Nat.le_eq, Nat.succ_eq_add_one, Nat.add_one_le_iff, Bool.not_eq_true', Bool.not_eq_false', rng_length, AK, AJ, Int.toNat_zero]
 refine ⟨⟨by omega, by omega⟩, ⟨⟨0, (gD l 0).lo⟩, ⟨rfl, rfl⟩, Nat.zero_le _, by rw [CXJ h1]; rfl⟩, λ s ⟨s1, s2⟩ => ⟨λ hlt => ⟨by omega, ⟨s.k + 1, DD s.m (gD l s.k).lo⟩, ⟨rfl, (FM (by omega)).symm⟩, ⟨by show s.k + 1 <= _; omega, ?_⟩, by show l.length - (s.k + 1) < _; omega⟩, λ hge => ?_⟩⟩
 ·show DD s.m (gD l s.k).lo = _
  rw [Hf (by simp; omega), List.foldl_append, <- s2, CUS _ (by omega)]; rfl
 ·rw [s2, List.take_of_length_le (by simp; omega), CXJ h1]; rfl) (λ _ => OS rfl rfl) _
theorem DPV : AN Try.prog Pd (C_grH.spec DOF) := MB C_grH DNI [] [] BHO (λ _ => by kernel_rfl) (λ _ => AD DDN AI) (λ (l : List Span) h => by
 obtain ⟨h1, h2⟩ : 0 < l.length /\ l.length < 1073741824 := h
 show DNH l; rw [DRU]; simp only [AU, eq_self, implies_true, and_self, true_and, and_true, true_implies, forall_const, decide_eq_true_eq, decide_eq_false_iff_not, Int.toNat_natCast, dSpan_eSpan, dInt_eInt, AY, AW, AX, Nat.zero_add, Int.zero_sub, Nat.le_eq, Nat.succ_eq_add_one, Nat.add_one_le_iff, Bool.not_eq_true', Bool.not_eq_false', rng_length, AK, AJ, Int.toNat_zero]
 refine ⟨⟨by omega, by omega⟩, ⟨⟨0, (gD l 0).hi⟩, ⟨rfl, rfl⟩, Nat.zero_le _, by rw [CXJ h1]; rfl⟩, λ s ⟨s1, s2⟩ => ⟨λ hlt => ⟨by omega, ⟨s.k + 1, DD s.m (gD l s.k).hi⟩, ⟨rfl, (FM (by omega)).symm⟩, ⟨by show s.k + 1 <= _; omega, ?_⟩, by show l.length - (s.k + 1) < _; omega⟩, λ hge => ?_⟩⟩
 ·show DD s.m (gD l s.k).hi = _
  rw [Hf (by simp; omega), List.foldl_append, <- s2, CUS _ (by omega)]; rfl
 ·rw [s2, List.take_of_length_le (by simp; omega), CXJ h1]; rfl) (λ _ => OS rfl rfl) _
end Go.Bal
