/- Package chart: spans joined; times parted. -/
import Derived.Test.YtdbjalgfomknhaaChG3
set_option linter.unusedVariables false
set_option linter.unusedSimpArgs false
namespace Go.Bal
open Go Go.Sym Go.Proofs
structure Hul where
 s : Span
 m : Bool
 deriving Inhabited
def hlB (h : Hul) : AObj := .box [.int h.s.lo, .int h.s.hi, .bool h.m]
def LC (h : Hul) (s : Span) : Hul := ⟨⟨bif h.m then JL s.lo h.s.lo else s.lo, bif h.m then DJ s.hi h.s.hi else s.hi⟩, true⟩
structure HuS where
 h : Hul
 s : Span
def CST (H : Heap) (id : Nat) : Option Hul := match H id with
 | .live (.box [.d a, .d b, .d c]) => some ⟨⟨CL a, CL b⟩, DAW c⟩
 | _ => none
def dHuS : List AVal -> Heap -> Option (HuS × List (Nat × Nat) × List Nat)
 | [.bptr id _, .d s], H => match CST H id with
  | some h => some (⟨h, LP s⟩, [(100, id)], [])
  | none => none
 | _, _ => none
def C_hadd : Ctr := { α := HuS, xs := λ a => [.bptr 100 0, .d (CN a.s)], L := λ a => [(100, hlB a.h)], val := λ _ => .d (.tup []), keep := λ a => [(100, .live (hlB (LC a.h a.s)))] }
def CIY : Ann := { ann 32 [] with E := [100] }
def CMM (a : HuS) : Prop := BB Try.prog CIY CCR (AL CCR) (C_hadd.xs a) (AG (C_hadd.L a)) (C_hadd.val a) (C_hadd.keep a) [] []
theorem COZ (a : HuS) : (CMM a) = (bif a.h.m then (LC a.h a.s).s.lo = JL a.s.lo a.h.s.lo /\ (LC a.h a.s).s.hi = DJ a.s.hi a.h.s.hi /\ true = true else (LC a.h a.s).s.lo = a.s.lo /\ (LC a.h a.s).s.hi =
 a.s.hi /\ true = true) := by kernel_rfl
theorem BOC : AM Try.prog ADF (C_hadd.spec dHuS) := LM C_hadd (λ _ => CIY) [] [] CQQ (λ _ => by kernel_rfl) (λ _ => AJ) (λ (a : HuS) _ => by
 show CMM a; rw [COZ]; simp only [CC, eq_self, implies_true, forall_const]
 refine ⟨λ h => ?_, λ h => ?_⟩ <;> · unfold LC; rw [h]; exact ⟨rfl, rfl⟩) (λ _ => OA rfl rfl) _
def GY (h : Hul) : Span × Int := bif h.m then (h.s, 0) else (⟨0, 0⟩, 5)
def dHu1 : List AVal -> Heap -> Option (Hul × List (Nat × Nat) × List Nat)
 | [.bptr id _], H => match CST H id with
  | some h => some (h, [(100, id)], [])
  | none => none
 | _, _ => none
def C_who : Ctr := { ro := [100], α := Hul, xs := λ _ => [.bptr 100 0], L := λ h => [(100, hlB h)], val := λ h => .tup [.d (CN (GY h).1), .int (GY h).2], keep := λ h => [(100, .live (hlB h))] }
def CTV : Ann := { ann 14 [] with E := [100] }
def CTY (h : Hul) : Prop := BB Try.prog CTV BRC (AL BRC) (C_who.xs h) (AG (C_who.L h)) (C_who.val h) (C_who.keep h) [] []
theorem CWS (h : Hul) : (CTY h) = (bif !h.m then (GY h).fst.lo = 0 /\ (GY h).fst.hi = 0 /\ (GY h).snd = 5 /\ h.s.lo = h.s.lo /\ h.s.hi = h.s.hi /\ h.m = h.m else (GY h).fst.lo = h.s.lo /\ (GY h).fst.hi = h.s.hi
 /\ (GY h).snd = 0 /\ h.s.lo = h.s.lo /\ h.s.hi = h.s.hi /\ h.m = h.m) := by kernel_rfl
theorem BZC : AM Try.prog vN (C_who.spec dHu1) := LM C_who (λ _ => CTV) [] [] CNH (λ _ => by kernel_rfl) (λ _ => AJ) (λ (h : Hul) _ => by
 show CTY h; rw [CWS]; simp only [CC, eq_self, implies_true, forall_const]
 refine ⟨λ q => ?_, λ q => ?_⟩ <;> · unfold GY; rw [q]; exact ⟨rfl, rfl, rfl⟩) (λ _ => OA rfl rfl) _
structure DkQ where
 w : Dk
 l : List Span
 k : Int
 a : Int
 b : Int
def parM (l : List Span) (k a b : Int) (i : Nat) : Span := ⟨bif decide (i = k.toNat) && decide (k < l.length) then DJ (gD l i).lo b else (gD l i).lo, bif decide (k > 0) && decide (i = (k - 1).toNat) then JL (gD l i).hi a else (gD l i).hi⟩
def Oj (l : List Span) (k a b : Int) : List Span := AE l.length (parM l k a b)
def dDkQ : List AVal -> Heap -> Option (DkQ × List (Nat × Nat) × List Nat)
 | [.bptr id _, y, .d k, .d a, .d b], H => match fJ H id, YC y H with
  | some (w, q), some (l, f) => some (⟨w, l, CL k, CL a, CL b⟩, [(100, id), (101, q)], f)
  | _, _ => none
 | _, _ => none
def C_part : Ctr := { ro := [100, 101], α := DkQ, xs := λ a => [.bptr 100 0, .d (AX a.l), .int a.k, .int a.a, .int a.b], L := λ a => dkL a.w, val := λ a => .d (AX (Oj a.l a.k a.a a.b)), keep := λ a => dkK a.w, pre := λ a => [(1 <= a.l.length /\ a.l.length <= 40) /\ 0 <= a.k /\ a.k <= a.l.length] }
def CKK : Ann := { ann 45 [(xM, C_clo.spec dSs1)] with E := [100, 101] }
def CKR (a : DkQ) : Prop := BB Try.prog CKK ATH (AL ATH) (C_part.xs a) (AG (C_part.L a)) (C_part.val a) (C_part.keep a) [] [2016]
abbrev ZF (a : DkQ) : List Span := AE a.l.length λ (i : Nat) => gD a.l i
abbrev FE (a : DkQ) : Nat := (ZF a).length
abbrev AXZ (a : DkQ) (i : Nat) : Span := gD (ZF a) i
abbrev B7 (a : DkQ) : Int := IntKind.i64.wrap (a.k - 1)
abbrev ATL (a : DkQ) : Prop := 0 <= B7 a /\ B7 a < (↑(FE a) : Int)
abbrev ZW (a : DkQ) : Nat := 0 + (B7 a).toNat
abbrev AQG (a : DkQ) : Prop := a.k < (↑(FE a) : Int)
abbrev ARU (a : DkQ) : Bool := decide (AQG a)
abbrev BIJ (a : DkQ) : Prop := 0 <= a.k /\ AQG a
abbrev Aa (a : DkQ) : Nat := 0 + a.k.toNat
abbrev X4 (a : DkQ) : Prop := BIJ a /\ Aa a < FE a /\ BIJ a /\ (Aa a).succ.le (FE a)
abbrev ALD (a : DkQ) : Nat := (Oj a.l a.k a.a a.b).length
abbrev YW (a : DkQ) : Prop := ALD a = FE a
abbrev Br (a : DkQ) : Prop := 0 + FE a <= FE a
abbrev Bb (j : Nat) (a : DkQ) : Prop := j < ALD a
abbrev AEE (a : DkQ) (j : Nat) : Span := gD (Oj a.l a.k a.a a.b) j
abbrev Ch (a : DkQ) (j : Nat) : Int := (AEE a j).lo
abbrev aJ (j : Nat) : Nat := 0 + j
abbrev Dj (j : Nat) (a : DkQ) : Bool := decide (aJ j = Aa a)
abbrev AEY (a : DkQ) : Bool := decide (Aa a = ZW a)
abbrev AIM (a : DkQ) : Span := gD (ZF a) (ZW a)
abbrev AIV (a : DkQ) : Int := (AIM a).lo
abbrev ADO (a : DkQ) : Span := gD (ZF a) (Aa a)
abbrev ABD (a : DkQ) : Int := (ADO a).lo
abbrev AGG (j : Nat) (a : DkQ) : Bool := decide (aJ j = ZW a)
abbrev AJN (a : DkQ) (j : Nat) : Span := gD (ZF a) (aJ j)
abbrev bD (a : DkQ) (j : Nat) : Int := (AJN a j).lo
abbrev AFO (j : Nat) (a : DkQ) : Int := bif AGG j a then AIV a else bD a j
abbrev Cm (a : DkQ) (j : Nat) : Int := (AEE a j).hi
abbrev P6 (a : DkQ) : Int := JL (AIM a).hi a.a
abbrev W3 (a : DkQ) : Int := (ADO a).hi
abbrev bL (a : DkQ) (j : Nat) : Int := (AJN a j).hi
abbrev AEC (j : Nat) (a : DkQ) : Int := bif AGG j a then P6 a else bL a j
abbrev AKP (a : DkQ) (i : Nat) : Int := (gD a.w.c.ns i).t.lo
abbrev AFJ (a : DkQ) (i : Nat) : Int := (gD a.w.c.ns i).t.hi
abbrev AJS (a : DkQ) (i : Nat) : Int := (gD a.w.c.ns i).s.lo
abbrev T4 (a : DkQ) (i : Nat) : Int := (gD a.w.c.ns i).s.hi
abbrev ZK (a : DkQ) : Prop := a.w.c.p.lo = a.w.c.p.lo /\ a.w.c.p.hi = a.w.c.p.hi /\ a.w.c.base = a.w.c.base /\ a.w.c.scale = a.w.c.scale /\ a.w.c.off = a.w.c.off /\ a.w.c.ms.length = a.w.c.ms.length /\ (∀ (i : Nat), i <
 a.w.c.ms.length -> (gD a.w.c.ms i).pl = (gD a.w.c.ms i).pl /\ (gD a.w.c.ms i).ht = (gD a.w.c.ms i).ht) /\ a.w.c.ns.length = a.w.c.ns.length /\ (∀ (i : Nat), i < a.w.c.ns.length -> (gD a.w.c.ns i).mi = (gD a.w.c.ns i).mi /\
 AKP a i = AKP a i /\ AFJ a i = AFJ a i /\ AJS a i = AJS a i /\ T4 a i = T4 a i) /\ (∀ (i : Nat), i < 40 -> a.w.sp i = a.w.sp i) /\ AT = AT /\ (∀ (n : Int), hasN a.w.c.ns n =
 hasN a.w.c.ns n) /\ (∀ (n : Int), a.w.st n = a.w.st n) /\ ∀ (n : Int), (ntOf a.w.c.ns n).mi = (ntOf a.w.c.ns n).mi /\ (ntOf a.w.c.ns n).t.lo = (ntOf a.w.c.ns n).t.lo /\ (ntOf a.w.c.ns n).t.hi = (ntOf a.w.c.ns n).t.hi /\ (ntOf
 a.w.c.ns n).s.lo = (ntOf a.w.c.ns n).s.lo /\ (ntOf a.w.c.ns n).s.hi = (ntOf a.w.c.ns n).s.hi
theorem CQF (a : DkQ) : (CKR a) = ((FE a = a.l.length /\ (∀ (i : Nat), i < FE a -> (AXZ a i).lo = (gD a.l i).lo /\ (AXZ a i).hi = (gD a.l i).hi) /\ 0 < FE a /\ FE a < 1073741824) /\ bif
 decide (a.k > 0) then (ATL a /\ ZW a < FE a /\ ATL a /\ (ZW a).succ.le (FE a)) /\ bif ARU a then X4 a /\ YW a /\ Br a /\ (∀ (j : Nat), Bb j a -> (Ch a j =
 bif Dj j a then DJ (bif AEY a then AIV a else ABD a) a.b else AFO j a) /\ Cm a j = bif Dj j a then bif AEY a then P6 a else W3 a else AEC j a) /\
 ZK a else YW a /\ Br a /\ (∀ (j : Nat), Bb j a -> Ch a j = AFO j a /\ Cm a j = AEC j a) /\ ZK a else bif ARU a then X4 a /\ YW a /\ Br a /\
 (∀ (j : Nat), Bb j a -> (Ch a j = bif Dj j a then DJ (ABD a) a.b else bD a j) /\ Cm a j = bif Dj j a then W3 a else bL a j) /\ ZK a else YW a /\
 Br a /\ (∀ (j : Nat), Bb j a -> Ch a j = bD a j /\ Cm a j = bL a j) /\ ZK a) := by kernel_rfl
theorem Cg (l : List Span) (k a b : Int) : (Oj l k a b).length = l.length := rng_length _ _
theorem CFK : AM Try.prog uQ (C_part.spec dDkQ) := LM C_part (λ _ => CKK) [] [2016] CHE (λ _ => by kernel_rfl) (λ _ => AC COL AJ) (λ (a : DkQ) h => by
 obtain ⟨⟨h1, h2⟩, h3, h4⟩ : (1 <= a.l.length /\ a.l.length <= 40) /\ 0 <= a.k /\ a.k <= a.l.length := h
 have e : IntKind.i64.wrap (a.k - 1) = a.k - 1 := FC (by omega) (by omega)
 have gj : ∀ {j : Nat}, j < a.l.length -> gD (Oj a.l a.k a.a a.b) j = parM a.l a.k a.a a.b j := λ hj => BH _ _ _ hj
 have t : (a.k - 1).toNat = a.k.toNat - 1 := by omega
 show CKR a; rw [CQF]; delta ZF FE AXZ B7 ATL ZW AQG ARU BIJ Aa X4 ALD YW Br Bb AEE Ch aJ Dj AEY AIM AIV ADO ABD AGG AJN bD AFO Cm P6 W3 bL AEC AKP AFJ AJS T4 ZK; simp only [CC, eq_self, implies_true, forall_const, e, Cg, t]
 refine ⟨⟨by omega, by omega⟩, λ hk => ⟨⟨⟨by omega, by omega⟩, by omega, ⟨by omega, by omega⟩, by omega⟩, λ hl => ⟨⟨⟨by omega, by omega⟩, by omega, ⟨by omega, by omega⟩, by omega⟩, Nat.le_refl _, λ j hj => ?_⟩, λ hl => ⟨Nat.le_refl _, λ j hj => ?_⟩⟩, λ hk => ⟨λ hl => ⟨⟨⟨by omega, by omega⟩, by omega, ⟨by omega, by omega⟩, by omega⟩, Nat.le_refl _, λ j hj => ?_⟩, λ hl => by omega⟩⟩
 ·rw [gj hj]; unfold parM; rw [t]
  have q0 : ¬ a.k.toNat = a.k.toNat - 1 := by omega
  by_cases q1 : j = a.k.toNat
  ·subst q1
   simp [hk, hl, q0]
  ·by_cases q2 : j = a.k.toNat - 1
   ·simp only [decide_eq_false q1, decide_eq_true q2, decide_eq_true hk, Bool.false_and, Bool.and_self, cond_true, cond_false]
    rw [q2]; exact ⟨rfl, rfl⟩
   ·simp [hk, q1, q2]
 ·rw [gj hj]; unfold parM; rw [t]
  by_cases q2 : j = a.k.toNat - 1
  ·simp only [decide_eq_true q2, decide_eq_true hk, decide_eq_false hl, Bool.and_false, Bool.and_self, cond_true, cond_false]
   rw [q2]; exact ⟨rfl, rfl⟩
  ·simp [hl, q2]
 ·rw [gj hj]; unfold parM; rw [t]
  by_cases q1 : j = a.k.toNat
  ·subst q1
   simp [hk, hl]
  ·simp [hk, q1]) (λ _ => OA rfl rfl) _
structure DkW where
 w : Dk
 l : List Span
 a : Int
 b : Int
 x : Int
 y : Int
def winL (l : List Span) (a b x y : Int) : List Span := Oj (Oj l a (wr (x - 1)) x) (wr (b + 1)) y (wr (y + 1))
def dDkW : List AVal -> Heap -> Option (DkW × List (Nat × Nat) × List Nat)
 | [.bptr id _, y, .d k, .d a, .d b, .d c], H => match fJ H id, YC y H with
  | some (w, q), some (l, f) => some (⟨w, l, CL k, CL a, CL b, CL c⟩, [(100, id), (101, q)], f)
  | _, _ => none
 | _, _ => none
def C_win : Ctr := { ro := [100, 101], α := DkW, xs := λ a => [.bptr 100 0, .d (AX a.l), .int a.a, .int a.b, .int a.x, .int a.y], L := λ a => dkL a.w, val := λ a => .d (AX (winL a.l a.a a.b a.x a.y)), keep := λ a => dkK a.w, pre := λ a => [(1 <= a.l.length /\ a.l.length <= 40) /\ (0 <= a.a /\ a.a < a.l.length) /\ 0 <= a.b /\ a.b < a.l.length] }
def CSF : Ann := { ann 29 [(uQ, C_part.spec dDkQ)] with E := [100, 101] }
def CUG (a : DkW) : Prop := BB Try.prog CSF BHC (AL BHC) (C_win.xs a) (AG (C_win.L a)) (C_win.val a) (C_win.keep a) [] []
abbrev AOA (a : DkW) : List Span := AE a.l.length λ (i : Nat) => gD a.l i
abbrev bW (a : DkW) : Nat := (AOA a).length
abbrev BUD (a : DkW) (i : Nat) : Span := gD (AOA a) i
abbrev AOJ (a : DkW) : Int := IntKind.i64.wrap (a.x - 1)
abbrev Zr (a : DkW) : Prop := a.w.c.p.lo = a.w.c.p.lo
abbrev Xt (a : DkW) : Prop := a.w.c.p.hi = a.w.c.p.hi
abbrev dY (a : DkW) : Prop := a.w.c.base = a.w.c.base
abbrev bS (a : DkW) : Prop := a.w.c.scale = a.w.c.scale
abbrev Zp (a : DkW) : Prop := a.w.c.off = a.w.c.off
abbrev BRN (a : DkW) : List Mk := AE a.w.c.ms.length λ (i : Nat) => gD a.w.c.ms i
abbrev yG (a : DkW) : Nat := (BRN a).length
abbrev BEQ (a : DkW) : Prop := yG a = a.w.c.ms.length
abbrev BFE (a : DkW) (i : Nat) : Mk := gD (BRN a) i
abbrev BFF (a : DkW) (i : Nat) : Int := (BFE a i).pl
abbrev ATJ (a : DkW) (i : Nat) : Int := (BFE a i).ht
abbrev ARB (a : DkW) : Prop := ∀ (i : Nat), i < yG a -> BFF a i = (gD a.w.c.ms i).pl /\ ATJ a i = (gD a.w.c.ms i).ht
abbrev Nc (a : DkW) : List Nt := AE a.w.c.ns.length λ (i : Nat) => gD a.w.c.ns i
abbrev vB (a : DkW) : Nat := (Nc a).length
abbrev ASH (a : DkW) : Prop := vB a = a.w.c.ns.length
abbrev zQ (a : DkW) (i : Nat) : Nt := gD (Nc a) i
abbrev AQK (a : DkW) (i : Nat) : Int := (zQ a i).mi
abbrev BJD (a : DkW) (i : Nat) : Span := (zQ a i).t
abbrev AZZ (a : DkW) (i : Nat) : Int := (BJD a i).lo
abbrev Uf (a : DkW) (i : Nat) : Int := (gD a.w.c.ns i).t.lo
abbrev BAH (a : DkW) (i : Nat) : Int := (BJD a i).hi
abbrev Nd (a : DkW) (i : Nat) : Int := (gD a.w.c.ns i).t.hi
abbrev AQT (a : DkW) (i : Nat) : Span := (zQ a i).s
abbrev BAT (a : DkW) (i : Nat) : Int := (AQT a i).lo
abbrev Sm (a : DkW) (i : Nat) : Int := (gD a.w.c.ns i).s.lo
abbrev BAG (a : DkW) (i : Nat) : Int := (AQT a i).hi
abbrev Sv (a : DkW) (i : Nat) : Int := (gD a.w.c.ns i).s.hi
abbrev BGJ (a : DkW) : Prop := ∀ (i : Nat), i < vB a -> AQK a i = (gD a.w.c.ns i).mi /\ AZZ a i = Uf a i /\ BAH a i = Nd a i /\ BAT a i = Sm a i /\ BAG a i = Sv a i
abbrev YN (a : DkW) : Prop := ∀ (i : Nat), i < 40 -> a.w.sp i = a.w.sp i
abbrev BHD (a : DkW) (n : Int) : Bool := hasN (Nc a) n
abbrev BJE (a : DkW) : Prop := ∀ (n : Int), BHD a n = hasN a.w.c.ns n
abbrev ZC (a : DkW) : Prop := ∀ (n : Int), a.w.st n = a.w.st n
abbrev uE (a : DkW) (n : Int) : Nt := ntOf (Nc a) n
abbrev ASN (a : DkW) (n : Int) : Int := (uE a n).mi
abbrev ARV (a : DkW) (n : Int) : Span := (uE a n).t
abbrev AWO (a : DkW) (n : Int) : Int := (ARV a n).lo
abbrev BFG (a : DkW) (n : Int) : Int := (ARV a n).hi
abbrev ATZ (a : DkW) (n : Int) : Span := (uE a n).s
abbrev BGF (a : DkW) (n : Int) : Int := (ATZ a n).lo
abbrev ASP (a : DkW) (n : Int) : Int := (ATZ a n).hi
abbrev ATE (a : DkW) : Prop := ∀ (n : Int), ASN a n = (ntOf a.w.c.ns n).mi /\ AWO a n = (ntOf a.w.c.ns n).t.lo /\ BFG a n = (ntOf a.w.c.ns n).t.hi /\ BGF a n = (ntOf a.w.c.ns n).s.lo /\ ASP a n
 = (ntOf a.w.c.ns n).s.hi
abbrev AYI (a : DkW) : Prop := a.w.c.ms.length = yG a
abbrev BIZ (i : Nat) (a : DkW) : Prop := i < a.w.c.ms.length
abbrev BEB (a : DkW) : Prop := ∀ (i : Nat), BIZ i a -> (gD a.w.c.ms i).pl = BFF a i /\ (gD a.w.c.ms i).ht = ATJ a i
abbrev AZE (a : DkW) : Prop := a.w.c.ns.length = vB a
abbrev BHH (i : Nat) (a : DkW) : Prop := i < a.w.c.ns.length
abbrev AVG (a : DkW) : Prop := ∀ (i : Nat), BHH i a -> (gD a.w.c.ns i).mi = AQK a i /\ Uf a i = AZZ a i /\ Nd a i = BAH a i /\ Sm a i = BAT a i /\ Sv a i = BAG a i
abbrev BDI (a : DkW) : Prop := ∀ (n : Int), hasN a.w.c.ns n = BHD a n
abbrev AVE (a : DkW) : Prop := ∀ (n : Int), (ntOf a.w.c.ns n).mi = ASN a n /\ (ntOf a.w.c.ns n).t.lo = AWO a n /\ (ntOf a.w.c.ns n).t.hi = BFG a n /\ (ntOf a.w.c.ns n).s.lo = BGF a n /\ (ntOf
 a.w.c.ns n).s.hi = ASP a n
abbrev ATF (a : DkW) : List Span := Oj (AOA a) a.a (AOJ a) a.x
abbrev BGN (a : DkW) : Nat := (ATF a).length
abbrev G5 (a : DkW) (i : Nat) : Span := gD (ATF a) i
abbrev N8 (a : DkW) : List Span := AE (BGN a) λ (i : Nat) => G5 a i
abbrev ZA (a : DkW) : Nat := (N8 a).length
abbrev AVZ (a : DkW) (i : Nat) : Span := gD (N8 a) i
abbrev Dg (a : DkW) : Int := IntKind.i64.wrap (a.b + 1)
abbrev A3 (a : DkW) : Int := IntKind.i64.wrap (a.y + 1)
abbrev ATP (a : DkW) : List Span := winL a.l a.a a.b a.x a.y
abbrev ASM (a : DkW) : Nat := (ATP a).length
abbrev ASL (a : DkW) : List Span := Oj (N8 a) (Dg a) a.y (A3 a)
abbrev BBD (a : DkW) (i : Nat) : Span := gD (ATP a) i
abbrev AQX (a : DkW) (i : Nat) : Span := gD (ASL a) i
theorem CWV (a : DkW) : (CUG a) = ((bW a = a.l.length /\ (∀ (i : Nat), i < bW a -> (BUD a i).lo = (gD a.l i).lo /\ (BUD a i).hi = (gD a.l i).hi) /\ a.a = a.a /\ AOJ a = AOJ a /\ a.x = a.x /\
 Zr a /\ Xt a /\ dY a /\ bS a /\ Zp a /\ BEQ a /\ ARB a /\ ASH a /\ BGJ a /\ YN a /\ AT = AT /\ BJE a /\ ZC a /\ ATE a /\ Zr a /\ Xt a /\ dY a /\ bS
 a /\ Zp a /\ AYI a /\ BEB a /\ AZE a /\ AVG a /\ YN a /\ AT = AT /\ BDI a /\ ZC a /\ AVE a /\ (1 <= bW a /\ bW a <= 40) /\ 0 <= a.a /\ a.a <= (↑(bW a) : Int)) /\ (ZA a =
 BGN a /\ (∀ (i : Nat), i < ZA a -> (AVZ a i).lo = (G5 a i).lo /\ (AVZ a i).hi = (G5 a i).hi) /\ Dg a = Dg a /\ a.y = a.y /\ A3 a = A3 a /\ Zr a /\ Xt a /\ dY
 a /\ bS a /\ Zp a /\ BEQ a /\ ARB a /\ ASH a /\ BGJ a /\ YN a /\ AT = AT /\ BJE a /\ ZC a /\ ATE a /\ Zr a /\ Xt a /\ dY a /\ bS a /\ Zp a /\ AYI a /\
 BEB a /\ AZE a /\ AVG a /\ YN a /\ AT = AT /\ BDI a /\ ZC a /\ AVE a /\ (1 <= ZA a /\ ZA a <= 40) /\ 0 <= Dg a /\ Dg a <= (↑(ZA a) : Int)) /\ ASM a = (ASL
 a).length /\ (∀ (i : Nat), i < ASM a -> (BBD a i).lo = (AQX a i).lo /\ (BBD a i).hi = (AQX a i).hi) /\ Zr a /\ Xt a /\ dY a /\ bS a /\ Zp a /\ a.w.c.ms.length = a.w.c.ms.length /\
 (∀ (i : Nat), BIZ i a -> (gD a.w.c.ms i).pl = (gD a.w.c.ms i).pl /\ (gD a.w.c.ms i).ht = (gD a.w.c.ms i).ht) /\ a.w.c.ns.length = a.w.c.ns.length /\ (∀ (i : Nat), BHH i a -> (gD a.w.c.ns i).mi = (gD a.w.c.ns i).mi /\
 Uf a i = Uf a i /\ Nd a i = Nd a i /\ Sm a i = Sm a i /\ Sv a i = Sv a i) /\ YN a /\ AT = AT /\ (∀ (n : Int), hasN a.w.c.ns n = hasN a.w.c.ns n) /\ ZC a /\ ∀ (n :
 Int), (ntOf a.w.c.ns n).mi = (ntOf a.w.c.ns n).mi /\ (ntOf a.w.c.ns n).t.lo = (ntOf a.w.c.ns n).t.lo /\ (ntOf a.w.c.ns n).t.hi = (ntOf a.w.c.ns n).t.hi /\ (ntOf a.w.c.ns n).s.lo = (ntOf a.w.c.ns n).s.lo /\ (ntOf a.w.c.ns
 n).s.hi = (ntOf a.w.c.ns n).s.hi) := by kernel_rfl
theorem CWH : AM Try.prog AVB (C_win.spec dDkW) := LM C_win (λ _ => CSF) [] [] CGA (λ _ => by kernel_rfl) (λ _ => AC CFK AJ) (λ (a : DkW) h => by
 obtain ⟨⟨h1, h2⟩, ⟨h3, h4⟩, h5, h6⟩ : (1 <= a.l.length /\ a.l.length <= 40) /\ (0 <= a.a /\ a.a < a.l.length) /\ 0 <= a.b /\ a.b < a.l.length := h
 have e : IntKind.i64.wrap (a.b + 1) = a.b + 1 := FC (by omega) (by omega)
 show CUG a; rw [CWV]; delta AOA bW BUD AOJ Zr Xt dY bS Zp BRN yG BEQ BFE BFF ATJ ARB Nc vB ASH zQ AQK BJD AZZ Uf BAH Nd AQT BAT Sm BAG Sv BGJ YN BHD BJE ZC uE ASN ARV AWO BFG ATZ BGF ASP ATE AYI BIZ BEB AZE BHH AVG BDI AVE ATF BGN G5 N8 ZA AVZ Dg A3 ATP ASM ASL BBD AQX; simp only [CC, eq_self, implies_true, forall_const]; simp only [Cg]
 refine ⟨⟨⟨by omega, h2⟩, h3, by omega⟩, ⟨⟨by omega, h2⟩, by omega, by omega⟩, ?_⟩
 have : winL a.l a.a a.b a.x a.y = Oj (Oj a.l a.a (IntKind.i64.wrap (a.x - 1)) a.x) (IntKind.i64.wrap (a.b + 1)) a.y (IntKind.i64.wrap (a.y + 1)) := rfl
 rw [this]; simp only [Cg]
 simp) (λ _ => OA rfl rfl) _
def BWL (s : Span) : Prop := BB Try.prog (ann 5 []) AZD (AL AZD) (xS1 s) (AG []) (.int s.lo) [] [] []
theorem CGU (s : Span) : (BWL s) = (s.lo = s.lo) := by kernel_rfl
def BYX := pD dS1 λ s => .int s.lo
def CFC (s : Span) : Prop := BB Try.prog (ann 5 []) BOU (AL BOU) (xS1 s) (AG []) (.int s.hi) [] [] []
theorem CIL (s : Span) : (CFC s) = (s.hi = s.hi) := by kernel_rfl
def CDT := pD dS1 λ s => .int s.hi
def C_least : Ctr := { α := One, xs := λ _ => [], val := λ _ => .agg [.fn (.func UR) [] []], keep := λ _ => [] }
def dN0c : List AVal -> Heap -> Option (One × List (Nat × Nat) × List Nat)
 | [], _ => some (default, [], [])
 | _, _ => none
def C_most : Ctr := { α := One, xs := λ _ => [], val := λ _ => .agg [.fn (.func Hl) [] []], keep := λ _ => [] }
def CCY (x : One) : Prop := BB Try.prog (ann 2 []) BMC (AL BMC) [] (AG []) (C_least.val x) [] [] []
theorem CJO (x : One) : (CCY x) = (True) := by kernel_rfl
def CKQ (x : One) : Prop := BB Try.prog (ann 2 []) BZP (AL BZP) [] (AG []) (C_most.val x) [] [] []
theorem CQA (x : One) : (CKQ x) = (True) := by kernel_rfl
theorem CGT : AM Try.prog UR BYX := WW xS1 hS1 λ x _ => UV (A := ann 5 []) (ren := []) (fz := []) CGF (by kernel_rfl) AJ (by
 show BWL x; rw [CGU]; try simp)
theorem CNG : AM Try.prog Hl CDT := WW xS1 hS1 λ x _ => UV (A := ann 5 []) (ren := []) (fz := []) CNF (by kernel_rfl) AJ (by
 show CFC x; rw [CIL]; try simp)
theorem CHK : AM Try.prog BSB (C_least.spec dN0c) := LM C_least (λ _ => ann 2 []) [] [] CIH (λ _ => by kernel_rfl) (λ _ => AJ) (λ (x : One) _ => by
 show CCY x; rw [CJO]; try simp) (λ _ => OA rfl rfl) _
theorem CPC : AM Try.prog CBX (C_most.spec dN0c) := LM C_most (λ _ => ann 2 []) [] [] CPS (λ _ => by kernel_rfl) (λ _ => AJ) (λ (x : One) _ => by
 show CKQ x; rw [CQA]; try simp) (λ _ => OA rfl rfl) _
def gLo (l : List Span) : Int := (l.map (·.lo)).foldl DJ (gD l 0).lo
def gHi (l : List Span) : Int := (l.map (·.hi)).foldl DJ (gD l 0).hi
def C_grL : Ctr := { α := List Span, xs := λ l => [.agg [.fn (.func UR) [] []], .d (AX l)], val := λ l => .int (gLo l), keep := λ _ => [], pre := λ l => [0 < l.length /\ l.length < 1073741824] }
def C_grH : Ctr := { α := List Span, xs := λ l => [.agg [.fn (.func Hl) [] []], .d (AX l)], val := λ l => .int (gHi l), keep := λ _ => [], pre := λ l => [0 < l.length /\ l.length < 1073741824] }
def CSM : List AVal -> Heap -> Option (List Span × List (Nat × Nat) × List Nat)
 | [.agg [.fn (.func f) _ _], y], H => if f = UR then match YC y H with
  | some (l, f) => some (l, [], f)
  | none => none else none
 | _, _ => none
def CUJ : List AVal -> Heap -> Option (List Span × List (Nat × Nat) × List Nat)
 | [.agg [.fn (.func f) _ _], y], H => if f = Hl then match YC y H with
  | some (l, f) => some (l, [], f)
  | none => none else none
 | _, _ => none
def gr3 (l : List Span) (v : AVal) (f : List Int) : Shape := { α := NI, dflt := default, T := λ s => ⟨[(2, .bptr 201 0), (5, .int s.m), (14, .d (AX l)), (15, .int l.length), (16, .int s.k)], [(201, .live (.box [v]))]⟩, inv := λ s => s.k <= l.length /\ s.m = (f.take s.k).foldl DJ (gD f 0), meas := λ s => l.length - s.k, first := [(201, 1000)] }
def CUO (l : List Span) : Ann := { ann 28 [(UR, BYX)] with loops := λ id => if id = 3 then some [gr3 l (.fn (.func UR) [] []) (l.map (·.lo))] else none }
def CSA (l : List Span) : Prop := BB Try.prog (CUO l) RZ (AL RZ) (C_grL.xs l) (AG []) (C_grL.val l) [] [] []
theorem CVD (l : List Span) : (CSA l) = (((0 : Int) <= (0 : Int) /\ (0 : Int) < (↑l.length : Int)) /\ (∃ (a : NI), (a.m = (gD l (Int.toNat (0 : Int))).lo /\ l.length = l.length /\ (∀ (i : Nat), i < l.length -> (gD l i).lo
 = (gD l i).lo /\ (gD l i).hi = (gD l i).hi) /\ (↑l.length : Int) = (↑l.length : Int) /\ (↑a.k : Int) = (0 : Int)) /\ a.k <= l.length /\ a.m = List.foldl DJ (gD (List.map (λ (x : Span) => x.lo) l) (0 : Nat)) (List.take a.k
 (List.map (λ (x : Span) => x.lo) l))) /\ ∀ (a : NI), a.k <= l.length /\ a.m = List.foldl DJ (gD (List.map (λ (x : Span) => x.lo) l) (0 : Nat)) (List.take a.k (List.map (λ (x : Span) => x.lo) l)) -> bif decide ((↑a.k
 : Int) < (↑l.length : Int)) then ((0 : Int) <= (↑a.k : Int) /\ (↑a.k : Int) < (↑l.length : Int)) /\ ∃ (a_2 : NI), (a_2.m = DJ a.m (gD l a.k).lo /\ l.length = l.length /\ (∀ (i : Nat), i < l.length -> (gD l i).lo = (gD l
 i).lo /\ (gD l i).hi = (gD l i).hi) /\ (↑l.length : Int) = (↑l.length : Int) /\ (↑a_2.k : Int) = IntKind.i64.wrap ((↑a.k : Int) + (1 : Int))) /\ (a_2.k <= l.length /\ a_2.m = List.foldl DJ (gD (List.map (λ (x : Span) =>
 x.lo) l) (0 : Nat)) (List.take a_2.k (List.map (λ (x : Span) => x.lo) l))) /\ l.length - a_2.k < l.length - a.k else gLo l = a.m) := by kernel_rfl
def CTG (l : List Span) : Ann := { ann 28 [(Hl, CDT)] with loops := λ id => if id = 3 then some [gr3 l (.fn (.func Hl) [] []) (l.map (·.hi))] else none }
def CUV (l : List Span) : Prop := BB Try.prog (CTG l) RZ (AL RZ) (C_grH.xs l) (AG []) (C_grH.val l) [] [] []
theorem CXB (l : List Span) : (CUV l) = (((0 : Int) <= (0 : Int) /\ (0 : Int) < (↑l.length : Int)) /\ (∃ (a : NI), (a.m = (gD l (Int.toNat (0 : Int))).hi /\ l.length = l.length /\ (∀ (i : Nat), i < l.length -> (gD l i).lo
 = (gD l i).lo /\ (gD l i).hi = (gD l i).hi) /\ (↑l.length : Int) = (↑l.length : Int) /\ (↑a.k : Int) = (0 : Int)) /\ a.k <= l.length /\ a.m = List.foldl DJ (gD (List.map (λ (x : Span) => x.hi) l) (0 : Nat)) (List.take a.k
 (List.map (λ (x : Span) => x.hi) l))) /\ ∀ (a : NI), a.k <= l.length /\ a.m = List.foldl DJ (gD (List.map (λ (x : Span) => x.hi) l) (0 : Nat)) (List.take a.k (List.map (λ (x : Span) => x.hi) l)) -> bif decide ((↑a.k
 : Int) < (↑l.length : Int)) then ((0 : Int) <= (↑a.k : Int) /\ (↑a.k : Int) < (↑l.length : Int)) /\ ∃ (a_2 : NI), (a_2.m = DJ a.m (gD l a.k).hi /\ l.length = l.length /\ (∀ (i : Nat), i < l.length -> (gD l i).lo = (gD l
 i).lo /\ (gD l i).hi = (gD l i).hi) /\ (↑l.length : Int) = (↑l.length : Int) /\ (↑a_2.k : Int) = IntKind.i64.wrap ((↑a.k : Int) + (1 : Int))) /\ (a_2.k <= l.length /\ a_2.m = List.foldl DJ (gD (List.map (λ (x : Span) =>
 x.hi) l) (0 : Nat)) (List.take a_2.k (List.map (λ (x : Span) => x.hi) l))) /\ l.length - a_2.k < l.length - a.k else gHi l = a.m) := by kernel_rfl
theorem CDG {f : Span -> Int} {l : List Span} (h : 0 < l.length) : gD (l.map f) 0 = f (gD l 0) := BZL f h
theorem CWF : AM Try.prog Ex (C_grL.spec CSM) := LM C_grL CUO [] [] AMJ (λ _ => by kernel_rfl) (λ _ => AC CGT AJ) (λ (l : List Span) h => by
 obtain ⟨h1, h2⟩ : 0 < l.length /\ l.length < 1073741824 := h
 show CSA l; rw [CVD]; simp only [CC, eq_self, implies_true, forall_const, Int.toNat_zero]
 refine ⟨⟨by omega, by omega⟩, ⟨⟨0, (gD l 0).lo⟩, ⟨rfl, rfl⟩, Nat.zero_le _, by rw [CDG h1]; rfl⟩, λ s ⟨s1, s2⟩ => ⟨λ hlt => ⟨by omega, ⟨s.k + 1, DJ s.m (gD l s.k).lo⟩, ⟨rfl, (GK (by omega)).symm⟩, ⟨by show s.k + 1 <= _; omega, ?_⟩, by show l.length - (s.k + 1) < _; omega⟩, λ hge => ?_⟩⟩
 ·show DJ s.m (gD l s.k).lo = _
  rw [Ck (by simp; omega), List.foldl_append, <- s2, BZL _ (by omega)]; rfl
 ·rw [s2, List.take_of_length_le (by simp; omega), CDG h1]; rfl) (λ _ => OA rfl rfl) _
theorem CWP : AM Try.prog Ex (C_grH.spec CUJ) := LM C_grH CTG [] [] AMJ (λ _ => by kernel_rfl) (λ _ => AC CNG AJ) (λ (l : List Span) h => by
 obtain ⟨h1, h2⟩ : 0 < l.length /\ l.length < 1073741824 := h
 show CUV l; rw [CXB]; simp only [CC, eq_self, implies_true, forall_const, Int.toNat_zero]
 refine ⟨⟨by omega, by omega⟩, ⟨⟨0, (gD l 0).hi⟩, ⟨rfl, rfl⟩, Nat.zero_le _, by rw [CDG h1]; rfl⟩, λ s ⟨s1, s2⟩ => ⟨λ hlt => ⟨by omega, ⟨s.k + 1, DJ s.m (gD l s.k).hi⟩, ⟨rfl, (GK (by omega)).symm⟩, ⟨by show s.k + 1 <= _; omega, ?_⟩, by show l.length - (s.k + 1) < _; omega⟩, λ hge => ?_⟩⟩
 ·show DJ s.m (gD l s.k).hi = _
  rw [Ck (by simp; omega), List.foldl_append, <- s2, BZL _ (by omega)]; rfl
 ·rw [s2, List.take_of_length_le (by simp; omega), CDG h1]; rfl) (λ _ => OA rfl rfl) _
end Go.Bal
