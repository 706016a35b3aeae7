/- Package chart: spans joined; times parted. -/
import Derived.Test.YtdbjalgfomknhaaChG3
set_option linter.unusedVariables false
set_option linter.unusedSimpArgs false
namespace Go.Bal
open Go Go.Sym Go.Proofs
structure Hul where
 s : Span
 m : Bool
 deriving Inhabited
def hlB (h : Hul) : AObj := .box [.int h.s.lo, .int h.s.hi, .bool h.m]
def LB (h : Hul) (s : Span) : Hul := ⟨⟨bif h.m then JK s.lo h.s.lo else s.lo, bif h.m then DJ s.hi h.s.hi else s.hi⟩, true⟩
structure HuS where
 h : Hul
 s : Span
def CRR (H : Heap) (id : Nat) : Option Hul := match H id with
 | .live (.box [.d a, .d b, .d c]) => some ⟨⟨CK a, CK b⟩, CYY c⟩
 | _ => none
def dHuS : List AVal -> Heap -> Option (HuS × List (Nat × Nat) × List Nat)
 | [.bptr id _, .d s], H => match CRR H id with
  | some h => some (⟨h, LI s⟩, [(100, id)], [])
  | none => none
 | _, _ => none
def C_hadd : Ctr := { α := HuS, xs := λ a => [.bptr 100 0, .d (CL a.s)], L := λ a => [(100, hlB a.h)], val := λ _ => .d (.tup []), keep := λ a => [(100, .live (hlB (LB a.h a.s)))] }
def CNQ : Ann := { ann 32 [] with E := [100] }
def CLG (a : HuS) : Prop := AZ Try.prog CNQ BZX (AL BZX) (C_hadd.xs a) (AG (C_hadd.L a)) (C_hadd.val a) (C_hadd.keep a) [] []
theorem CQR (a : HuS) : (CLG a) = (bif a.h.m then (LB a.h a.s).s.lo = JK a.s.lo a.h.s.lo /\ (LB a.h a.s).s.hi = DJ a.s.hi a.h.s.hi /\ true = true else (LB a.h a.s).s.lo = a.s.lo /\ (LB a.h a.s).s.hi =
 a.s.hi /\ true = true) := by kernel_rfl
theorem BSB : AM Try.prog O1 (C_hadd.spec dHuS) := LF C_hadd (λ _ => CNQ) [] [] CRA (λ _ => by kernel_rfl) (λ _ => AJ) (λ (a : HuS) _ => by
 show CLG a; rw [CQR]; simp only [CC, eq_self, implies_true, forall_const]
 refine ⟨λ h => ?_, λ h => ?_⟩ <;> · unfold LB; rw [h]; exact ⟨rfl, rfl⟩) (λ _ => NP rfl rfl) _
def GU (h : Hul) : Span × Int := bif h.m then (h.s, 0) else (⟨0, 0⟩, 5)
def dHu1 : List AVal -> Heap -> Option (Hul × List (Nat × Nat) × List Nat)
 | [.bptr id _], H => match CRR H id with
  | some h => some (h, [(100, id)], [])
  | none => none
 | _, _ => none
def C_who : Ctr := { ro := [100], α := Hul, xs := λ _ => [.bptr 100 0], L := λ h => [(100, hlB h)], val := λ h => .tup [.d (CL (GU h).1), .int (GU h).2], keep := λ h => [(100, .live (hlB h))] }
def CTY : Ann := { ann 14 [] with E := [100] }
def CTG (h : Hul) : Prop := AZ Try.prog CTY BVG (AL BVG) (C_who.xs h) (AG (C_who.L h)) (C_who.val h) (C_who.keep h) [] []
theorem CVQ (h : Hul) : (CTG h) = (bif !h.m then (GU h).fst.lo = 0 /\ (GU h).fst.hi = 0 /\ (GU h).snd = 5 /\ h.s.lo = h.s.lo /\ h.s.hi = h.s.hi /\ h.m = h.m else (GU h).fst.lo = h.s.lo /\ (GU h).fst.hi = h.s.hi
 /\ (GU h).snd = 0 /\ h.s.lo = h.s.lo /\ h.s.hi = h.s.hi /\ h.m = h.m) := by kernel_rfl
theorem BZM : AM Try.prog E4 (C_who.spec dHu1) := LF C_who (λ _ => CTY) [] [] CKU (λ _ => by kernel_rfl) (λ _ => AJ) (λ (h : Hul) _ => by
 show CTG h; rw [CVQ]; simp only [CC, eq_self, implies_true, forall_const]
 refine ⟨λ q => ?_, λ q => ?_⟩ <;> · unfold GU; rw [q]; exact ⟨rfl, rfl, rfl⟩) (λ _ => NP rfl rfl) _
structure DkQ where
 w : Dk
 l : List Span
 k : Int
 a : Int
 b : Int
def parM (l : List Span) (k a b : Int) (i : Nat) : Span := ⟨bif decide (i = k.toNat) && decide (k < l.length) then DJ (gD l i).lo b else (gD l i).lo, bif decide (k > 0) && decide (i = (k - 1).toNat) then JK (gD l i).hi a else (gD l i).hi⟩
def Pj (l : List Span) (k a b : Int) : List Span := AE l.length (parM l k a b)
def dDkQ : List AVal -> Heap -> Option (DkQ × List (Nat × Nat) × List Nat)
 | [.bptr id _, y, .d k, .d a, .d b], H => match eY H id, XV y H with
  | some (w, q), some (l, f) => some (⟨w, l, CK k, CK a, CK b⟩, [(100, id), (101, q)], f)
  | _, _ => none
 | _, _ => none
def C_part : Ctr := { ro := [100, 101], α := DkQ, xs := λ a => [.bptr 100 0, .d (AX a.l), .int a.k, .int a.a, .int a.b], L := λ a => dkL a.w, val := λ a => .d (AX (Pj a.l a.k a.a a.b)), keep := λ a => dkK a.w, pre := λ a => [(1 <= a.l.length /\ a.l.length <= 40) /\ 0 <= a.k /\ a.k <= a.l.length] }
def CIU : Ann := { ann 45 [(tU, C_clo.spec dSs1)] with E := [100, 101] }
def CNU (a : DkQ) : Prop := AZ Try.prog CIU BDR (AL BDR) (C_part.xs a) (AG (C_part.L a)) (C_part.val a) (C_part.keep a) [] [2016]
abbrev Br (a : DkQ) : List Span := AE a.l.length λ (i : Nat) => gD a.l i
abbrev FD (a : DkQ) : Nat := (Br a).length
abbrev AXO (a : DkQ) (i : Nat) : Span := gD (Br a) i
abbrev xY (a : DkQ) : Int := IntKind.i64.wrap (a.k - 1)
abbrev BBL (a : DkQ) : Prop := 0 <= xY a /\ xY a < (↑(FD a) : Int)
abbrev YU (a : DkQ) : Nat := 0 + (xY a).toNat
abbrev BAY (a : DkQ) : Prop := a.k < (↑(FD a) : Int)
abbrev ASA (a : DkQ) : Bool := decide (BAY a)
abbrev AVV (a : DkQ) : Prop := 0 <= a.k /\ BAY a
abbrev Cw (a : DkQ) : Nat := 0 + a.k.toNat
abbrev R4 (a : DkQ) : Prop := AVV a /\ Cw a < FD a /\ AVV a /\ (Cw a).succ.le (FD a)
abbrev AHB (a : DkQ) : Nat := (Pj a.l a.k a.a a.b).length
abbrev ZD (a : DkQ) : Prop := AHB a = FD a
abbrev Cx (a : DkQ) : Prop := 0 + FD a <= FD a
abbrev Bt (j : Nat) (a : DkQ) : Prop := j < AHB a
abbrev AIP (a : DkQ) (j : Nat) : Span := gD (Pj a.l a.k a.a a.b) j
abbrev ZA (a : DkQ) (j : Nat) : Int := (AIP a j).lo
abbrev Xw (j : Nat) : Nat := 0 + j
abbrev Au (j : Nat) (a : DkQ) : Bool := decide (Xw j = Cw a)
abbrev AFF (a : DkQ) : Bool := decide (Cw a = YU a)
abbrev ADC (a : DkQ) : Span := gD (Br a) (YU a)
abbrev AJN (a : DkQ) : Int := (ADC a).lo
abbrev W3 (a : DkQ) : Span := gD (Br a) (Cw a)
abbrev ADW (a : DkQ) : Int := (W3 a).lo
abbrev AAO (j : Nat) (a : DkQ) : Bool := decide (Xw j = YU a)
abbrev AEB (a : DkQ) (j : Nat) : Span := gD (Br a) (Xw j)
abbrev cO (a : DkQ) (j : Nat) : Int := (AEB a j).lo
abbrev AKU (j : Nat) (a : DkQ) : Int := bif AAO j a then AJN a else cO a j
abbrev Ad (a : DkQ) (j : Nat) : Int := (AIP a j).hi
abbrev AIM (a : DkQ) : Int := JK (ADC a).hi a.a
abbrev AJX (a : DkQ) : Int := (W3 a).hi
abbrev Yb (a : DkQ) (j : Nat) : Int := (AEB a j).hi
abbrev AKT (j : Nat) (a : DkQ) : Int := bif AAO j a then AIM a else Yb a j
abbrev AIS (a : DkQ) (i : Nat) : Int := (gD a.w.c.ns i).t.lo
abbrev AJK (a : DkQ) (i : Nat) : Int := (gD a.w.c.ns i).t.hi
abbrev T5 (a : DkQ) (i : Nat) : Int := (gD a.w.c.ns i).s.lo
abbrev Z5 (a : DkQ) (i : Nat) : Int := (gD a.w.c.ns i).s.hi
abbrev Be (a : DkQ) : Prop := a.w.c.p.lo = a.w.c.p.lo /\ a.w.c.p.hi = a.w.c.p.hi /\ a.w.c.base = a.w.c.base /\ a.w.c.scale = a.w.c.scale /\ a.w.c.off = a.w.c.off /\ a.w.c.ms.length = a.w.c.ms.length /\ (∀ (i : Nat), i <
 a.w.c.ms.length -> (gD a.w.c.ms i).pl = (gD a.w.c.ms i).pl /\ (gD a.w.c.ms i).ht = (gD a.w.c.ms i).ht) /\ a.w.c.ns.length = a.w.c.ns.length /\ (∀ (i : Nat), i < a.w.c.ns.length -> (gD a.w.c.ns i).mi = (gD a.w.c.ns i).mi /\
 AIS a i = AIS a i /\ AJK a i = AJK a i /\ T5 a i = T5 a i /\ Z5 a i = Z5 a i) /\ (∀ (i : Nat), i < 40 -> a.w.sp i = a.w.sp i) /\ AT = AT /\ (∀ (n : Int), hasN a.w.c.ns n =
 hasN a.w.c.ns n) /\ (∀ (n : Int), a.w.st n = a.w.st n) /\ ∀ (n : Int), (ntOf a.w.c.ns n).mi = (ntOf a.w.c.ns n).mi /\ (ntOf a.w.c.ns n).t.lo = (ntOf a.w.c.ns n).t.lo /\ (ntOf a.w.c.ns n).t.hi = (ntOf a.w.c.ns n).t.hi /\ (ntOf
 a.w.c.ns n).s.lo = (ntOf a.w.c.ns n).s.lo /\ (ntOf a.w.c.ns n).s.hi = (ntOf a.w.c.ns n).s.hi
theorem CQG (a : DkQ) : (CNU a) = ((FD a = a.l.length /\ (∀ (i : Nat), i < FD a -> (AXO a i).lo = (gD a.l i).lo /\ (AXO a i).hi = (gD a.l i).hi) /\ 0 < FD a /\ FD a < 1073741824) /\ bif
 decide (a.k > 0) then (BBL a /\ YU a < FD a /\ BBL a /\ (YU a).succ.le (FD a)) /\ bif ASA a then R4 a /\ ZD a /\ Cx a /\ (∀ (j : Nat), Bt j a -> (ZA a j =
 bif Au j a then DJ (bif AFF a then AJN a else ADW a) a.b else AKU j a) /\ Ad a j = bif Au j a then bif AFF a then AIM a else AJX a else AKT j a) /\
 Be a else ZD a /\ Cx a /\ (∀ (j : Nat), Bt j a -> ZA a j = AKU j a /\ Ad a j = AKT j a) /\ Be a else bif ASA a then R4 a /\ ZD a /\ Cx a /\
 (∀ (j : Nat), Bt j a -> (ZA a j = bif Au j a then DJ (ADW a) a.b else cO a j) /\ Ad a j = bif Au j a then AJX a else Yb a j) /\ Be a else ZD a /\
 Cx a /\ (∀ (j : Nat), Bt j a -> ZA a j = cO a j /\ Ad a j = Yb a j) /\ Be a) := by kernel_rfl
theorem Ai (l : List Span) (k a b : Int) : (Pj l k a b).length = l.length := rng_length _ _
theorem CDW : AM Try.prog yY (C_part.spec dDkQ) := LF C_part (λ _ => CIU) [] [2016] CGW (λ _ => by kernel_rfl) (λ _ => AC CMP AJ) (λ (a : DkQ) h => by
 obtain ⟨⟨h1, h2⟩, h3, h4⟩ : (1 <= a.l.length /\ a.l.length <= 40) /\ 0 <= a.k /\ a.k <= a.l.length := h
 have e : IntKind.i64.wrap (a.k - 1) = a.k - 1 := FH (by omega) (by omega)
 have gj : ∀ {j : Nat}, j < a.l.length -> gD (Pj a.l a.k a.a a.b) j = parM a.l a.k a.a a.b j := λ hj => BN _ _ _ hj
 have t : (a.k - 1).toNat = a.k.toNat - 1 := by omega
 show CNU a; rw [CQG]; delta Br FD AXO xY BBL YU BAY ASA AVV Cw R4 AHB ZD Cx Bt AIP ZA Xw Au AFF ADC AJN W3 ADW AAO AEB cO AKU Ad AIM AJX Yb AKT AIS AJK T5 Z5 Be; simp only [CC, eq_self, implies_true, forall_const, e, Ai, t]
 refine ⟨⟨by omega, by omega⟩, λ hk => ⟨⟨⟨by omega, by omega⟩, by omega, ⟨by omega, by omega⟩, by omega⟩, λ hl => ⟨⟨⟨by omega, by omega⟩, by omega, ⟨by omega, by omega⟩, by omega⟩, Nat.le_refl _, λ j hj => ?_⟩, λ hl => ⟨Nat.le_refl _, λ j hj => ?_⟩⟩, λ hk => ⟨λ hl => ⟨⟨⟨by omega, by omega⟩, by omega, ⟨by omega, by omega⟩, by omega⟩, Nat.le_refl _, λ j hj => ?_⟩, λ hl => by omega⟩⟩
 ·rw [gj hj]; unfold parM; rw [t]
  have q0 : ¬ a.k.toNat = a.k.toNat - 1 := by omega
  by_cases q1 : j = a.k.toNat
  ·subst q1
   simp [hk, hl, q0]
  ·by_cases q2 : j = a.k.toNat - 1
   ·simp only [decide_eq_false q1, decide_eq_true q2, decide_eq_true hk, Bool.false_and, Bool.and_self, cond_true, cond_false]
    rw [q2]; exact ⟨rfl, rfl⟩
   ·simp [hk, q1, q2]
 ·rw [gj hj]; unfold parM; rw [t]
  by_cases q2 : j = a.k.toNat - 1
  ·simp only [decide_eq_true q2, decide_eq_true hk, decide_eq_false hl, Bool.and_false, Bool.and_self, cond_true, cond_false]
   rw [q2]; exact ⟨rfl, rfl⟩
  ·simp [hl, q2]
 ·rw [gj hj]; unfold parM; rw [t]
  by_cases q1 : j = a.k.toNat
  ·subst q1
   simp [hk, hl]
  ·simp [hk, q1]) (λ _ => NP rfl rfl) _
structure DkW where
 w : Dk
 l : List Span
 a : Int
 b : Int
 x : Int
 y : Int
def winL (l : List Span) (a b x y : Int) : List Span := Pj (Pj l a (wr (x - 1)) x) (wr (b + 1)) y (wr (y + 1))
def dDkW : List AVal -> Heap -> Option (DkW × List (Nat × Nat) × List Nat)
 | [.bptr id _, y, .d k, .d a, .d b, .d c], H => match eY H id, XV y H with
  | some (w, q), some (l, f) => some (⟨w, l, CK k, CK a, CK b, CK c⟩, [(100, id), (101, q)], f)
  | _, _ => none
 | _, _ => none
def C_win : Ctr := { ro := [100, 101], α := DkW, xs := λ a => [.bptr 100 0, .d (AX a.l), .int a.a, .int a.b, .int a.x, .int a.y], L := λ a => dkL a.w, val := λ a => .d (AX (winL a.l a.a a.b a.x a.y)), keep := λ a => dkK a.w, pre := λ a => [(1 <= a.l.length /\ a.l.length <= 40) /\ (0 <= a.a /\ a.a < a.l.length) /\ 0 <= a.b /\ a.b < a.l.length] }
def CSV : Ann := { ann 29 [(yY, C_part.spec dDkQ)] with E := [100, 101] }
def CTX (a : DkW) : Prop := AZ Try.prog CSV BEE (AL BEE) (C_win.xs a) (AG (C_win.L a)) (C_win.val a) (C_win.keep a) [] []
abbrev AND (a : DkW) : List Span := AE a.l.length λ (i : Nat) => gD a.l i
abbrev dY (a : DkW) : Nat := (AND a).length
abbrev BQO (a : DkW) (i : Nat) : Span := gD (AND a) i
abbrev AOJ (a : DkW) : Int := IntKind.i64.wrap (a.x - 1)
abbrev Yu (a : DkW) : Prop := a.w.c.p.lo = a.w.c.p.lo
abbrev Xh (a : DkW) : Prop := a.w.c.p.hi = a.w.c.p.hi
abbrev bX (a : DkW) : Prop := a.w.c.base = a.w.c.base
abbrev Xm (a : DkW) : Prop := a.w.c.scale = a.w.c.scale
abbrev cW (a : DkW) : Prop := a.w.c.off = a.w.c.off
abbrev BVO (a : DkW) : List Mk := AE a.w.c.ms.length λ (i : Nat) => gD a.w.c.ms i
abbrev L2 (a : DkW) : Nat := (BVO a).length
abbrev AZH (a : DkW) : Prop := L2 a = a.w.c.ms.length
abbrev AUB (a : DkW) (i : Nat) : Mk := gD (BVO a) i
abbrev AZK (a : DkW) (i : Nat) : Int := (AUB a i).pl
abbrev BDA (a : DkW) (i : Nat) : Int := (AUB a i).ht
abbrev AVE (a : DkW) : Prop := ∀ (i : Nat), i < L2 a -> AZK a i = (gD a.w.c.ms i).pl /\ BDA a i = (gD a.w.c.ms i).ht
abbrev Wa (a : DkW) : List Nt := AE a.w.c.ns.length λ (i : Nat) => gD a.w.c.ns i
abbrev D0 (a : DkW) : Nat := (Wa a).length
abbrev BCX (a : DkW) : Prop := D0 a = a.w.c.ns.length
abbrev uW (a : DkW) (i : Nat) : Nt := gD (Wa a) i
abbrev ARZ (a : DkW) (i : Nat) : Int := (uW a i).mi
abbrev AUH (a : DkW) (i : Nat) : Span := (uW a i).t
abbrev ARV (a : DkW) (i : Nat) : Int := (AUH a i).lo
abbrev Rm (a : DkW) (i : Nat) : Int := (gD a.w.c.ns i).t.lo
abbrev AWB (a : DkW) (i : Nat) : Int := (AUH a i).hi
abbrev Oy (a : DkW) (i : Nat) : Int := (gD a.w.c.ns i).t.hi
abbrev ARH (a : DkW) (i : Nat) : Span := (uW a i).s
abbrev BFJ (a : DkW) (i : Nat) : Int := (ARH a i).lo
abbrev Wi (a : DkW) (i : Nat) : Int := (gD a.w.c.ns i).s.lo
abbrev AUU (a : DkW) (i : Nat) : Int := (ARH a i).hi
abbrev Nv (a : DkW) (i : Nat) : Int := (gD a.w.c.ns i).s.hi
abbrev BAS (a : DkW) : Prop := ∀ (i : Nat), i < D0 a -> ARZ a i = (gD a.w.c.ns i).mi /\ ARV a i = Rm a i /\ AWB a i = Oy a i /\ BFJ a i = Wi a i /\ AUU a i = Nv a i
abbrev Bk (a : DkW) : Prop := ∀ (i : Nat), i < 40 -> a.w.sp i = a.w.sp i
abbrev BCL (a : DkW) (n : Int) : Bool := hasN (Wa a) n
abbrev ASU (a : DkW) : Prop := ∀ (n : Int), BCL a n = hasN a.w.c.ns n
abbrev Cz (a : DkW) : Prop := ∀ (n : Int), a.w.st n = a.w.st n
abbrev wV (a : DkW) (n : Int) : Nt := ntOf (Wa a) n
abbrev AVT (a : DkW) (n : Int) : Int := (wV a n).mi
abbrev BIR (a : DkW) (n : Int) : Span := (wV a n).t
abbrev BDD (a : DkW) (n : Int) : Int := (BIR a n).lo
abbrev ATK (a : DkW) (n : Int) : Int := (BIR a n).hi
abbrev AQB (a : DkW) (n : Int) : Span := (wV a n).s
abbrev ARE (a : DkW) (n : Int) : Int := (AQB a n).lo
abbrev AYB (a : DkW) (n : Int) : Int := (AQB a n).hi
abbrev BFC (a : DkW) : Prop := ∀ (n : Int), AVT a n = (ntOf a.w.c.ns n).mi /\ BDD a n = (ntOf a.w.c.ns n).t.lo /\ ATK a n = (ntOf a.w.c.ns n).t.hi /\ ARE a n = (ntOf a.w.c.ns n).s.lo /\ AYB a n
 = (ntOf a.w.c.ns n).s.hi
abbrev AVR (a : DkW) : Prop := a.w.c.ms.length = L2 a
abbrev AYT (i : Nat) (a : DkW) : Prop := i < a.w.c.ms.length
abbrev AYJ (a : DkW) : Prop := ∀ (i : Nat), AYT i a -> (gD a.w.c.ms i).pl = AZK a i /\ (gD a.w.c.ms i).ht = BDA a i
abbrev BAJ (a : DkW) : Prop := a.w.c.ns.length = D0 a
abbrev BGX (i : Nat) (a : DkW) : Prop := i < a.w.c.ns.length
abbrev BEH (a : DkW) : Prop := ∀ (i : Nat), BGX i a -> (gD a.w.c.ns i).mi = ARZ a i /\ Rm a i = ARV a i /\ Oy a i = AWB a i /\ Wi a i = BFJ a i /\ Nv a i = AUU a i
abbrev ATO (a : DkW) : Prop := ∀ (n : Int), hasN a.w.c.ns n = BCL a n
abbrev AQV (a : DkW) : Prop := ∀ (n : Int), (ntOf a.w.c.ns n).mi = AVT a n /\ (ntOf a.w.c.ns n).t.lo = BDD a n /\ (ntOf a.w.c.ns n).t.hi = ATK a n /\ (ntOf a.w.c.ns n).s.lo = ARE a n /\ (ntOf
 a.w.c.ns n).s.hi = AYB a n
abbrev BFF (a : DkW) : List Span := Pj (AND a) a.a (AOJ a) a.x
abbrev AUL (a : DkW) : Nat := (BFF a).length
abbrev D3 (a : DkW) (i : Nat) : Span := gD (BFF a) i
abbrev uV (a : DkW) : List Span := AE (AUL a) λ (i : Nat) => D3 a i
abbrev Cg (a : DkW) : Nat := (uV a).length
abbrev BDQ (a : DkW) (i : Nat) : Span := gD (uV a) i
abbrev Cc (a : DkW) : Int := IntKind.i64.wrap (a.b + 1)
abbrev tM (a : DkW) : Int := IntKind.i64.wrap (a.y + 1)
abbrev AXX (a : DkW) : List Span := winL a.l a.a a.b a.x a.y
abbrev ASY (a : DkW) : Nat := (AXX a).length
abbrev BDL (a : DkW) : List Span := Pj (uV a) (Cc a) a.y (tM a)
abbrev BAZ (a : DkW) (i : Nat) : Span := gD (AXX a) i
abbrev ATB (a : DkW) (i : Nat) : Span := gD (BDL a) i
theorem CWW (a : DkW) : (CTX a) = ((dY a = a.l.length /\ (∀ (i : Nat), i < dY a -> (BQO a i).lo = (gD a.l i).lo /\ (BQO a i).hi = (gD a.l i).hi) /\ a.a = a.a /\ AOJ a = AOJ a /\ a.x = a.x /\
 Yu a /\ Xh a /\ bX a /\ Xm a /\ cW a /\ AZH a /\ AVE a /\ BCX a /\ BAS a /\ Bk a /\ AT = AT /\ ASU a /\ Cz a /\ BFC a /\ Yu a /\ Xh a /\ bX a /\ Xm
 a /\ cW a /\ AVR a /\ AYJ a /\ BAJ a /\ BEH a /\ Bk a /\ AT = AT /\ ATO a /\ Cz a /\ AQV a /\ (1 <= dY a /\ dY a <= 40) /\ 0 <= a.a /\ a.a <= (↑(dY a) : Int)) /\ (Cg a =
 AUL a /\ (∀ (i : Nat), i < Cg a -> (BDQ a i).lo = (D3 a i).lo /\ (BDQ a i).hi = (D3 a i).hi) /\ Cc a = Cc a /\ a.y = a.y /\ tM a = tM a /\ Yu a /\ Xh a /\ bX
 a /\ Xm a /\ cW a /\ AZH a /\ AVE a /\ BCX a /\ BAS a /\ Bk a /\ AT = AT /\ ASU a /\ Cz a /\ BFC a /\ Yu a /\ Xh a /\ bX a /\ Xm a /\ cW a /\ AVR a /\
 AYJ a /\ BAJ a /\ BEH a /\ Bk a /\ AT = AT /\ ATO a /\ Cz a /\ AQV a /\ (1 <= Cg a /\ Cg a <= 40) /\ 0 <= Cc a /\ Cc a <= (↑(Cg a) : Int)) /\ ASY a = (BDL
 a).length /\ (∀ (i : Nat), i < ASY a -> (BAZ a i).lo = (ATB a i).lo /\ (BAZ a i).hi = (ATB a i).hi) /\ Yu a /\ Xh a /\ bX a /\ Xm a /\ cW a /\ a.w.c.ms.length = a.w.c.ms.length /\
 (∀ (i : Nat), AYT i a -> (gD a.w.c.ms i).pl = (gD a.w.c.ms i).pl /\ (gD a.w.c.ms i).ht = (gD a.w.c.ms i).ht) /\ a.w.c.ns.length = a.w.c.ns.length /\ (∀ (i : Nat), BGX i a -> (gD a.w.c.ns i).mi = (gD a.w.c.ns i).mi /\
 Rm a i = Rm a i /\ Oy a i = Oy a i /\ Wi a i = Wi a i /\ Nv a i = Nv a i) /\ Bk a /\ AT = AT /\ (∀ (n : Int), hasN a.w.c.ns n = hasN a.w.c.ns n) /\ Cz a /\ ∀ (n :
 Int), (ntOf a.w.c.ns n).mi = (ntOf a.w.c.ns n).mi /\ (ntOf a.w.c.ns n).t.lo = (ntOf a.w.c.ns n).t.lo /\ (ntOf a.w.c.ns n).t.hi = (ntOf a.w.c.ns n).t.hi /\ (ntOf a.w.c.ns n).s.lo = (ntOf a.w.c.ns n).s.lo /\ (ntOf a.w.c.ns
 n).s.hi = (ntOf a.w.c.ns n).s.hi) := by kernel_rfl
theorem CWR : AM Try.prog ARP (C_win.spec dDkW) := LF C_win (λ _ => CSV) [] [] CGG (λ _ => by kernel_rfl) (λ _ => AC CDW AJ) (λ (a : DkW) h => by
 obtain ⟨⟨h1, h2⟩, ⟨h3, h4⟩, h5, h6⟩ : (1 <= a.l.length /\ a.l.length <= 40) /\ (0 <= a.a /\ a.a < a.l.length) /\ 0 <= a.b /\ a.b < a.l.length := h
 have e : IntKind.i64.wrap (a.b + 1) = a.b + 1 := FH (by omega) (by omega)
 show CTX a; rw [CWW]; delta AND dY BQO AOJ Yu Xh bX Xm cW BVO L2 AZH AUB AZK BDA AVE Wa D0 BCX uW ARZ AUH ARV Rm AWB Oy ARH BFJ Wi AUU Nv BAS Bk BCL ASU Cz wV AVT BIR BDD ATK AQB ARE AYB BFC AVR AYT AYJ BAJ BGX BEH ATO AQV BFF AUL D3 uV Cg BDQ Cc tM AXX ASY BDL BAZ ATB; simp only [CC, eq_self, implies_true, forall_const]; simp only [Ai]
 refine ⟨⟨⟨by omega, h2⟩, h3, by omega⟩, ⟨⟨by omega, h2⟩, by omega, by omega⟩, ?_⟩
 have : winL a.l a.a a.b a.x a.y = Pj (Pj a.l a.a (IntKind.i64.wrap (a.x - 1)) a.x) (IntKind.i64.wrap (a.b + 1)) a.y (IntKind.i64.wrap (a.y + 1)) := rfl
 rw [this]; simp only [Ai]
 simp) (λ _ => NP rfl rfl) _
def BXE (s : Span) : Prop := AZ Try.prog (ann 5 []) AUF (AL AUF) (xS1 s) (AG []) (.int s.lo) [] [] []
theorem CGI (s : Span) : (BXE s) = (s.lo = s.lo) := by kernel_rfl
def BWV := pD dS1 λ s => .int s.lo
def CDQ (s : Span) : Prop := AZ Try.prog (ann 5 []) BSN (AL BSN) (xS1 s) (AG []) (.int s.hi) [] [] []
theorem CNM (s : Span) : (CDQ s) = (s.hi = s.hi) := by kernel_rfl
def CDK := pD dS1 λ s => .int s.hi
def C_least : Ctr := { α := One, xs := λ _ => [], val := λ _ => .agg [.fn (.func TR) [] []], keep := λ _ => [] }
def dN0c : List AVal -> Heap -> Option (One × List (Nat × Nat) × List Nat)
 | [], _ => some (default, [], [])
 | _, _ => none
def C_most : Ctr := { α := One, xs := λ _ => [], val := λ _ => .agg [.fn (.func Gv) [] []], keep := λ _ => [] }
def CCW (x : One) : Prop := AZ Try.prog (ann 2 []) BMI (AL BMI) [] (AG []) (C_least.val x) [] [] []
theorem CLH (x : One) : (CCW x) = (True) := by kernel_rfl
def COC (x : One) : Prop := AZ Try.prog (ann 2 []) CCI (AL CCI) [] (AG []) (C_most.val x) [] [] []
theorem CPY (x : One) : (COC x) = (True) := by kernel_rfl
theorem CGU : AM Try.prog TR BWV := XN xS1 hS1 λ x _ => UO (A := ann 5 []) (ren := []) (fz := []) CGC (by kernel_rfl) AJ (by
 show BXE x; rw [CGI]; try simp)
theorem CKT : AM Try.prog Gv CDK := XN xS1 hS1 λ x _ => UO (A := ann 5 []) (ren := []) (fz := []) CMI (by kernel_rfl) AJ (by
 show CDQ x; rw [CNM]; try simp)
theorem CJH : AM Try.prog BTG (C_least.spec dN0c) := LF C_least (λ _ => ann 2 []) [] [] CNX (λ _ => by kernel_rfl) (λ _ => AJ) (λ (x : One) _ => by
 show CCW x; rw [CLH]; try simp) (λ _ => NP rfl rfl) _
theorem CPJ : AM Try.prog BZC (C_most.spec dN0c) := LF C_most (λ _ => ann 2 []) [] [] CPD (λ _ => by kernel_rfl) (λ _ => AJ) (λ (x : One) _ => by
 show COC x; rw [CPY]; try simp) (λ _ => NP rfl rfl) _
def gLo (l : List Span) : Int := (l.map (·.lo)).foldl DJ (gD l 0).lo
def gHi (l : List Span) : Int := (l.map (·.hi)).foldl DJ (gD l 0).hi
def C_grL : Ctr := { α := List Span, xs := λ l => [.agg [.fn (.func TR) [] []], .d (AX l)], val := λ l => .int (gLo l), keep := λ _ => [], pre := λ l => [0 < l.length /\ l.length < 1073741824] }
def C_grH : Ctr := { α := List Span, xs := λ l => [.agg [.fn (.func Gv) [] []], .d (AX l)], val := λ l => .int (gHi l), keep := λ _ => [], pre := λ l => [0 < l.length /\ l.length < 1073741824] }
def CUG : List AVal -> Heap -> Option (List Span × List (Nat × Nat) × List Nat)
 | [.agg [.fn (.func f) _ _], y], H => if f = TR then match XV y H with
  | some (l, f) => some (l, [], f)
  | none => none else none
 | _, _ => none
def CSJ : List AVal -> Heap -> Option (List Span × List (Nat × Nat) × List Nat)
 | [.agg [.fn (.func f) _ _], y], H => if f = Gv then match XV y H with
  | some (l, f) => some (l, [], f)
  | none => none else none
 | _, _ => none
def gr3 (l : List Span) (v : AVal) (f : List Int) : Shape := { α := NI, dflt := default, T := λ s => ⟨[(2, .bptr 201 0), (5, .int s.m), (14, .d (AX l)), (15, .int l.length), (16, .int s.k)], [(201, .live (.box [v]))]⟩, inv := λ s => s.k <= l.length /\ s.m = (f.take s.k).foldl DJ (gD f 0), meas := λ s => l.length - s.k, first := [(201, 1000)] }
def CSZ (l : List Span) : Ann := { ann 28 [(TR, BWV)] with loops := λ id => if id = 3 then some [gr3 l (.fn (.func TR) [] []) (l.map (·.lo))] else none }
def CUV (l : List Span) : Prop := AZ Try.prog (CSZ l) TH (AL TH) (C_grL.xs l) (AG []) (C_grL.val l) [] [] []
theorem CVL (l : List Span) : (CUV l) = (((0 : Int) <= (0 : Int) /\ (0 : Int) < (↑l.length : Int)) /\ (∃ (a : NI), (a.m = (gD l (Int.toNat (0 : Int))).lo /\ l.length = l.length /\ (∀ (i : Nat), i < l.length -> (gD l i).lo
 = (gD l i).lo /\ (gD l i).hi = (gD l i).hi) /\ (↑l.length : Int) = (↑l.length : Int) /\ (↑a.k : Int) = (0 : Int)) /\ a.k <= l.length /\ a.m = List.foldl DJ (gD (List.map (λ (x : Span) => x.lo) l) (0 : Nat)) (List.take a.k
 (List.map (λ (x : Span) => x.lo) l))) /\ ∀ (a : NI), a.k <= l.length /\ a.m = List.foldl DJ (gD (List.map (λ (x : Span) => x.lo) l) (0 : Nat)) (List.take a.k (List.map (λ (x : Span) => x.lo) l)) -> bif decide ((↑a.k
 : Int) < (↑l.length : Int)) then ((0 : Int) <= (↑a.k : Int) /\ (↑a.k : Int) < (↑l.length : Int)) /\ ∃ (a_2 : NI), (a_2.m = DJ a.m (gD l a.k).lo /\ l.length = l.length /\ (∀ (i : Nat), i < l.length -> (gD l i).lo = (gD l
 i).lo /\ (gD l i).hi = (gD l i).hi) /\ (↑l.length : Int) = (↑l.length : Int) /\ (↑a_2.k : Int) = IntKind.i64.wrap ((↑a.k : Int) + (1 : Int))) /\ (a_2.k <= l.length /\ a_2.m = List.foldl DJ (gD (List.map (λ (x : Span) =>
 x.lo) l) (0 : Nat)) (List.take a_2.k (List.map (λ (x : Span) => x.lo) l))) /\ l.length - a_2.k < l.length - a.k else gLo l = a.m) := by kernel_rfl
def CTU (l : List Span) : Ann := { ann 28 [(Gv, CDK)] with loops := λ id => if id = 3 then some [gr3 l (.fn (.func Gv) [] []) (l.map (·.hi))] else none }
def CUD (l : List Span) : Prop := AZ Try.prog (CTU l) TH (AL TH) (C_grH.xs l) (AG []) (C_grH.val l) [] [] []
theorem CUX (l : List Span) : (CUD l) = (((0 : Int) <= (0 : Int) /\ (0 : Int) < (↑l.length : Int)) /\ (∃ (a : NI), (a.m = (gD l (Int.toNat (0 : Int))).hi /\ l.length = l.length /\ (∀ (i : Nat), i < l.length -> (gD l i).lo
 = (gD l i).lo /\ (gD l i).hi = (gD l i).hi) /\ (↑l.length : Int) = (↑l.length : Int) /\ (↑a.k : Int) = (0 : Int)) /\ a.k <= l.length /\ a.m = List.foldl DJ (gD (List.map (λ (x : Span) => x.hi) l) (0 : Nat)) (List.take a.k
 (List.map (λ (x : Span) => x.hi) l))) /\ ∀ (a : NI), a.k <= l.length /\ a.m = List.foldl DJ (gD (List.map (λ (x : Span) => x.hi) l) (0 : Nat)) (List.take a.k (List.map (λ (x : Span) => x.hi) l)) -> bif decide ((↑a.k
 : Int) < (↑l.length : Int)) then ((0 : Int) <= (↑a.k : Int) /\ (↑a.k : Int) < (↑l.length : Int)) /\ ∃ (a_2 : NI), (a_2.m = DJ a.m (gD l a.k).hi /\ l.length = l.length /\ (∀ (i : Nat), i < l.length -> (gD l i).lo = (gD l
 i).lo /\ (gD l i).hi = (gD l i).hi) /\ (↑l.length : Int) = (↑l.length : Int) /\ (↑a_2.k : Int) = IntKind.i64.wrap ((↑a.k : Int) + (1 : Int))) /\ (a_2.k <= l.length /\ a_2.m = List.foldl DJ (gD (List.map (λ (x : Span) =>
 x.hi) l) (0 : Nat)) (List.take a_2.k (List.map (λ (x : Span) => x.hi) l))) /\ l.length - a_2.k < l.length - a.k else gHi l = a.m) := by kernel_rfl
theorem CDB {f : Span -> Int} {l : List Span} (h : 0 < l.length) : gD (l.map f) 0 = f (gD l 0) := CCJ f h
theorem CXE : AM Try.prog Gi (C_grL.spec CUG) := LF C_grL CSZ [] [] ALP (λ _ => by kernel_rfl) (λ _ => AC CGU AJ) (λ (l : List Span) h => by
 obtain ⟨h1, h2⟩ : 0 < l.length /\ l.length < 1073741824 := h
 show CUV l; rw [CVL]; simp only [CC, eq_self, implies_true, forall_const, Int.toNat_zero]
 refine ⟨⟨by omega, by omega⟩, ⟨⟨0, (gD l 0).lo⟩, ⟨rfl, rfl⟩, Nat.zero_le _, by rw [CDB h1]; rfl⟩, λ s ⟨s1, s2⟩ => ⟨λ hlt => ⟨by omega, ⟨s.k + 1, DJ s.m (gD l s.k).lo⟩, ⟨rfl, (GE (by omega)).symm⟩, ⟨by show s.k + 1 <= _; omega, ?_⟩, by show l.length - (s.k + 1) < _; omega⟩, λ hge => ?_⟩⟩
 ·show DJ s.m (gD l s.k).lo = _
  rw [Aq (by simp; omega), List.foldl_append, <- s2, CCJ _ (by omega)]; rfl
 ·rw [s2, List.take_of_length_le (by simp; omega), CDB h1]; rfl) (λ _ => NP rfl rfl) _
theorem CUW : AM Try.prog Gi (C_grH.spec CSJ) := LF C_grH CTU [] [] ALP (λ _ => by kernel_rfl) (λ _ => AC CKT AJ) (λ (l : List Span) h => by
 obtain ⟨h1, h2⟩ : 0 < l.length /\ l.length < 1073741824 := h
 show CUD l; rw [CUX]; simp only [CC, eq_self, implies_true, forall_const, Int.toNat_zero]
 refine ⟨⟨by omega, by omega⟩, ⟨⟨0, (gD l 0).hi⟩, ⟨rfl, rfl⟩, Nat.zero_le _, by rw [CDB h1]; rfl⟩, λ s ⟨s1, s2⟩ => ⟨λ hlt => ⟨by omega, ⟨s.k + 1, DJ s.m (gD l s.k).hi⟩, ⟨rfl, (GE (by omega)).symm⟩, ⟨by show s.k + 1 <= _; omega, ?_⟩, by show l.length - (s.k + 1) < _; omega⟩, λ hge => ?_⟩⟩
 ·show DJ s.m (gD l s.k).hi = _
  rw [Aq (by simp; omega), List.foldl_append, <- s2, CCJ _ (by omega)]; rfl
 ·rw [s2, List.take_of_length_le (by simp; omega), CDB h1]; rfl) (λ _ => NP rfl rfl) _
end Go.Bal
