/- Package chart: spans joined; times parted. -/
import Derived.Test.YtdbjalgfomknhaaChG3
set_option linter.unusedVariables false
set_option linter.unusedSimpArgs false
namespace Go.Bal
open Go Go.Sym Go.Proofs
structure Hul where
 s : Span
 m : Bool
 deriving Inhabited
def hlB (h : Hul) : AObj := .box [.int h.s.lo, .int h.s.hi, .bool h.m]
def KG (h : Hul) (s : Span) : Hul := ⟨⟨bif h.m then DX s.lo h.s.lo else s.lo, bif h.m then AY s.hi h.s.hi else s.hi⟩, true⟩
structure HuS where
 h : Hul
 s : Span
def CSL (H : Heap) (id : Nat) : Option Hul := match H id with
 | .live (.box [.d a, .d b, .d c]) => some ⟨⟨BU a, BU b⟩, CZC c⟩
 | _ => none
def dHuS : List AVal -> Heap -> Option (HuS × List (Nat × Nat) × List Nat)
 | [.bptr id _, .d s], H => match CSL H id with
  | some h => some (⟨h, KY s⟩, [(100, id)], [])
  | none => none
 | _, _ => none
def C_hadd : Ctr := { α := HuS, xs := λ a => [.bptr 100 0, .d (BT a.s)], L := λ a => [(100, hlB a.h)], val := λ _ => .d (.tup []), keep := λ a => [(100, .live (hlB (KG a.h a.s)))] }
def CIX : Ann := { ann 32 [] with E := [100] }
def CMG (a : HuS) : Prop := AW Try.prog CIX BYN (AK BYN) (C_hadd.xs a) (AF (C_hadd.L a)) (C_hadd.val a) (C_hadd.keep a) [] []
theorem CPH (a : HuS) : (CMG a) = (bif a.h.m then (KG a.h a.s).s.lo = DX a.s.lo a.h.s.lo /\ (KG a.h a.s).s.hi = AY a.s.hi a.h.s.hi /\ true = true else (KG a.h a.s).s.lo = a.s.lo /\ (KG a.h a.s).s.hi =
 a.s.hi /\ true = true) := by kernel_rfl
theorem BTJ : AL Try.prog AJH (C_hadd.spec dHuS) := KV C_hadd (λ _ => CIX) [] [] CNC (λ _ => by kernel_rfl) (λ _ => AI) (λ (a : HuS) _ => by
 show CMG a; rw [CPH]; simp only [CC, eq_self, implies_true, forall_const]
 refine ⟨λ h => ?_, λ h => ?_⟩ <;> · unfold KG; rw [h]; exact ⟨rfl, rfl⟩) (λ _ => MD rfl rfl) _
def DS (h : Hul) : Span × Int := bif h.m then (h.s, 0) else (⟨0, 0⟩, 5)
def dHu1 : List AVal -> Heap -> Option (Hul × List (Nat × Nat) × List Nat)
 | [.bptr id _], H => match CSL H id with
  | some h => some (h, [(100, id)], [])
  | none => none
 | _, _ => none
def C_who : Ctr := { ro := [100], α := Hul, xs := λ _ => [.bptr 100 0], L := λ h => [(100, hlB h)], val := λ h => .tup [.d (BT (DS h).1), .int (DS h).2], keep := λ h => [(100, .live (hlB h))] }
def CQL : Ann := { ann 14 [] with E := [100] }
def CSD (h : Hul) : Prop := AW Try.prog CQL BQH (AK BQH) (C_who.xs h) (AF (C_who.L h)) (C_who.val h) (C_who.keep h) [] []
theorem CVG (h : Hul) : (CSD h) = (bif !h.m then (DS h).fst.lo = 0 /\ (DS h).fst.hi = 0 /\ (DS h).snd = 5 /\ h.s.lo = h.s.lo /\ h.s.hi = h.s.hi /\ h.m = h.m else (DS h).fst.lo = h.s.lo /\ (DS h).fst.hi = h.s.hi
 /\ (DS h).snd = 0 /\ h.s.lo = h.s.lo /\ h.s.hi = h.s.hi /\ h.m = h.m) := by kernel_rfl
theorem BYM : AL Try.prog vG (C_who.spec dHu1) := KV C_who (λ _ => CQL) [] [] CHW (λ _ => by kernel_rfl) (λ _ => AI) (λ (h : Hul) _ => by
 show CSD h; rw [CVG]; simp only [CC, eq_self, implies_true, forall_const]
 refine ⟨λ q => ?_, λ q => ?_⟩ <;> · unfold DS; rw [q]; exact ⟨rfl, rfl, rfl⟩) (λ _ => MD rfl rfl) _
structure DkQ where
 w : Dk
 l : List Span
 k : Int
 a : Int
 b : Int
def parM (l : List Span) (k a b : Int) (i : Nat) : Span := ⟨bif decide (i = k.toNat) && decide (k < l.length) then AY (gD l i).lo b else (gD l i).lo, bif decide (k > 0) && decide (i = (k - 1).toNat) then DX (gD l i).hi a else (gD l i).hi⟩
def Fq (l : List Span) (k a b : Int) : List Span := AE l.length (parM l k a b)
def dDkQ : List AVal -> Heap -> Option (DkQ × List (Nat × Nat) × List Nat)
 | [.bptr id _, y, .d k, .d a, .d b], H => match hC H id, YT y H with
  | some (w, q), some (l, f) => some (⟨w, l, BU k, BU a, BU b⟩, [(100, id), (101, q)], f)
  | _, _ => none
 | _, _ => none
def C_part : Ctr := { ro := [100, 101], α := DkQ, xs := λ a => [.bptr 100 0, .d (AV a.l), .int a.k, .int a.a, .int a.b], L := λ a => dkL a.w, val := λ a => .d (AV (Fq a.l a.k a.a a.b)), keep := λ a => dkK a.w, pre := λ a => [(1 <= a.l.length /\ a.l.length <= 40) /\ 0 <= a.k /\ a.k <= a.l.length] }
def CFN : Ann := { ann 45 [(H4, C_clo.spec dSs1)] with E := [100, 101] }
def CKR (a : DkQ) : Prop := AW Try.prog CFN AWZ (AK AWZ) (C_part.xs a) (AF (C_part.L a)) (C_part.val a) (C_part.keep a) [] [2016]
abbrev ZU (a : DkQ) : List Span := AE a.l.length λ (i : Nat) => gD a.l i
abbrev EI (a : DkQ) : Nat := (ZU a).length
abbrev BBS (a : DkQ) (i : Nat) : Span := gD (ZU a) i
abbrev yE (a : DkQ) : Int := IntKind.i64.wrap (a.k - 1)
abbrev BHG (a : DkQ) : Prop := 0 <= yE a /\ yE a < (↑(EI a) : Int)
abbrev Bd (a : DkQ) : Nat := 0 + (yE a).toNat
abbrev AUF (a : DkQ) : Prop := a.k < (↑(EI a) : Int)
abbrev BCM (a : DkQ) : Bool := decide (AUF a)
abbrev AQJ (a : DkQ) : Prop := 0 <= a.k /\ AUF a
abbrev Ct (a : DkQ) : Nat := 0 + a.k.toNat
abbrev ABH (a : DkQ) : Prop := AQJ a /\ Ct a < EI a /\ AQJ a /\ (Ct a).succ.le (EI a)
abbrev AKA (a : DkQ) : Nat := (Fq a.l a.k a.a a.b).length
abbrev ZQ (a : DkQ) : Prop := AKA a = EI a
abbrev Du (a : DkQ) : Prop := 0 + EI a <= EI a
abbrev Cv (j : Nat) (a : DkQ) : Prop := j < AKA a
abbrev AJV (a : DkQ) (j : Nat) : Span := gD (Fq a.l a.k a.a a.b) j
abbrev At (a : DkQ) (j : Nat) : Int := (AJV a j).lo
abbrev eT (j : Nat) : Nat := 0 + j
abbrev ZR (j : Nat) (a : DkQ) : Bool := decide (eT j = Ct a)
abbrev AJM (a : DkQ) : Bool := decide (Ct a = Bd a)
abbrev ABA (a : DkQ) : Span := gD (ZU a) (Bd a)
abbrev AEM (a : DkQ) : Int := (ABA a).lo
abbrev AIH (a : DkQ) : Span := gD (ZU a) (Ct a)
abbrev AKW (a : DkQ) : Int := (AIH a).lo
abbrev W8 (j : Nat) (a : DkQ) : Bool := decide (eT j = Bd a)
abbrev O9 (a : DkQ) (j : Nat) : Span := gD (ZU a) (eT j)
abbrev Yr (a : DkQ) (j : Nat) : Int := (O9 a j).lo
abbrev X1 (j : Nat) (a : DkQ) : Int := bif W8 j a then AEM a else Yr a j
abbrev Ak (a : DkQ) (j : Nat) : Int := (AJV a j).hi
abbrev X4 (a : DkQ) : Int := DX (ABA a).hi a.a
abbrev Y0 (a : DkQ) : Int := (AIH a).hi
abbrev bV (a : DkQ) (j : Nat) : Int := (O9 a j).hi
abbrev AFO (j : Nat) (a : DkQ) : Int := bif W8 j a then X4 a else bV a j
abbrev AHZ (a : DkQ) (i : Nat) : Int := (gD a.w.c.ns i).t.lo
abbrev AKP (a : DkQ) (i : Nat) : Int := (gD a.w.c.ns i).t.hi
abbrev AGB (a : DkQ) (i : Nat) : Int := (gD a.w.c.ns i).s.lo
abbrev AAB (a : DkQ) (i : Nat) : Int := (gD a.w.c.ns i).s.hi
abbrev Aj (a : DkQ) : Prop := a.w.c.p.lo = a.w.c.p.lo /\ a.w.c.p.hi = a.w.c.p.hi /\ a.w.c.base = a.w.c.base /\ a.w.c.scale = a.w.c.scale /\ a.w.c.off = a.w.c.off /\ a.w.c.ms.length = a.w.c.ms.length /\ (∀ (i : Nat), i <
 a.w.c.ms.length -> (gD a.w.c.ms i).pl = (gD a.w.c.ms i).pl /\ (gD a.w.c.ms i).ht = (gD a.w.c.ms i).ht) /\ a.w.c.ns.length = a.w.c.ns.length /\ (∀ (i : Nat), i < a.w.c.ns.length -> (gD a.w.c.ns i).mi = (gD a.w.c.ns i).mi /\
 AHZ a i = AHZ a i /\ AKP a i = AKP a i /\ AGB a i = AGB a i /\ AAB a i = AAB a i) /\ (∀ (i : Nat), i < 40 -> a.w.sp i = a.w.sp i) /\ AT = AT /\ (∀ (n : Int), hasN a.w.c.ns n =
 hasN a.w.c.ns n) /\ (∀ (n : Int), a.w.st n = a.w.st n) /\ ∀ (n : Int), (ntOf a.w.c.ns n).mi = (ntOf a.w.c.ns n).mi /\ (ntOf a.w.c.ns n).t.lo = (ntOf a.w.c.ns n).t.lo /\ (ntOf a.w.c.ns n).t.hi = (ntOf a.w.c.ns n).t.hi /\ (ntOf
 a.w.c.ns n).s.lo = (ntOf a.w.c.ns n).s.lo /\ (ntOf a.w.c.ns n).s.hi = (ntOf a.w.c.ns n).s.hi
theorem CMW (a : DkQ) : (CKR a) = ((EI a = a.l.length /\ (∀ (i : Nat), i < EI a -> (BBS a i).lo = (gD a.l i).lo /\ (BBS a i).hi = (gD a.l i).hi) /\ 0 < EI a /\ EI a < 1073741824) /\ bif
 decide (a.k > 0) then (BHG a /\ Bd a < EI a /\ BHG a /\ (Bd a).succ.le (EI a)) /\ bif BCM a then ABH a /\ ZQ a /\ Du a /\ (∀ (j : Nat), Cv j a -> (At a j =
 bif ZR j a then AY (bif AJM a then AEM a else AKW a) a.b else X1 j a) /\ Ak a j = bif ZR j a then bif AJM a then X4 a else Y0 a else AFO j a) /\
 Aj a else ZQ a /\ Du a /\ (∀ (j : Nat), Cv j a -> At a j = X1 j a /\ Ak a j = AFO j a) /\ Aj a else bif BCM a then ABH a /\ ZQ a /\ Du a /\
 (∀ (j : Nat), Cv j a -> (At a j = bif ZR j a then AY (AKW a) a.b else Yr a j) /\ Ak a j = bif ZR j a then Y0 a else bV a j) /\ Aj a else ZQ a /\
 Du a /\ (∀ (j : Nat), Cv j a -> At a j = Yr a j /\ Ak a j = bV a j) /\ Aj a) := by kernel_rfl
theorem Be (l : List Span) (k a b : Int) : (Fq l k a b).length = l.length := rng_length _ _
theorem CDJ : AL Try.prog C1 (C_part.spec dDkQ) := KV C_part (λ _ => CFN) [] [2016] CEL (λ _ => by kernel_rfl) (λ _ => AD CII AI) (λ (a : DkQ) h => by
 obtain ⟨⟨h1, h2⟩, h3, h4⟩ : (1 <= a.l.length /\ a.l.length <= 40) /\ 0 <= a.k /\ a.k <= a.l.length := h
 have e : IntKind.i64.wrap (a.k - 1) = a.k - 1 := CP (by omega) (by omega)
 have gj : ∀ {j : Nat}, j < a.l.length -> gD (Fq a.l a.k a.a a.b) j = parM a.l a.k a.a a.b j := λ hj => BK _ _ _ hj
 have t : (a.k - 1).toNat = a.k.toNat - 1 := by omega
 show CKR a; rw [CMW]; delta ZU EI BBS yE BHG Bd AUF BCM AQJ Ct ABH AKA ZQ Du Cv AJV At eT ZR AJM ABA AEM AIH AKW W8 O9 Yr X1 Ak X4 Y0 bV AFO AHZ AKP AGB AAB Aj; simp only [CC, eq_self, implies_true, forall_const, e, Be, t]
 refine ⟨⟨by omega, by omega⟩, λ hk => ⟨⟨⟨by omega, by omega⟩, by omega, ⟨by omega, by omega⟩, by omega⟩, λ hl => ⟨⟨⟨by omega, by omega⟩, by omega, ⟨by omega, by omega⟩, by omega⟩, Nat.le_refl _, λ j hj => ?_⟩, λ hl => ⟨Nat.le_refl _, λ j hj => ?_⟩⟩, λ hk => ⟨λ hl => ⟨⟨⟨by omega, by omega⟩, by omega, ⟨by omega, by omega⟩, by omega⟩, Nat.le_refl _, λ j hj => ?_⟩, λ hl => by omega⟩⟩
 ·rw [gj hj]; unfold parM; rw [t]
  have q0 : ¬ a.k.toNat = a.k.toNat - 1 := by omega
  by_cases q1 : j = a.k.toNat
  ·subst q1
   simp [hk, hl, q0]
  ·by_cases q2 : j = a.k.toNat - 1
   ·simp only [decide_eq_false q1, decide_eq_true q2, decide_eq_true hk, Bool.false_and, Bool.and_self, cond_true, cond_false]
    rw [q2]; exact ⟨rfl, rfl⟩
   ·simp [hk, q1, q2]
 ·rw [gj hj]; unfold parM; rw [t]
  by_cases q2 : j = a.k.toNat - 1
  ·simp only [decide_eq_true q2, decide_eq_true hk, decide_eq_false hl, Bool.and_false, Bool.and_self, cond_true, cond_false]
   rw [q2]; exact ⟨rfl, rfl⟩
  ·simp [hl, q2]
 ·rw [gj hj]; unfold parM; rw [t]
  by_cases q1 : j = a.k.toNat
  ·subst q1
   simp [hk, hl]
  ·simp [hk, q1]) (λ _ => MD rfl rfl) _
structure DkW where
 w : Dk
 l : List Span
 a : Int
 b : Int
 x : Int
 y : Int
def winL (l : List Span) (a b x y : Int) : List Span := Fq (Fq l a (wr (x - 1)) x) (wr (b + 1)) y (wr (y + 1))
def dDkW : List AVal -> Heap -> Option (DkW × List (Nat × Nat) × List Nat)
 | [.bptr id _, y, .d k, .d a, .d b, .d c], H => match hC H id, YT y H with
  | some (w, q), some (l, f) => some (⟨w, l, BU k, BU a, BU b, BU c⟩, [(100, id), (101, q)], f)
  | _, _ => none
 | _, _ => none
def C_win : Ctr := { ro := [100, 101], α := DkW, xs := λ a => [.bptr 100 0, .d (AV a.l), .int a.a, .int a.b, .int a.x, .int a.y], L := λ a => dkL a.w, val := λ a => .d (AV (winL a.l a.a a.b a.x a.y)), keep := λ a => dkK a.w, pre := λ a => [(1 <= a.l.length /\ a.l.length <= 40) /\ (0 <= a.a /\ a.a < a.l.length) /\ 0 <= a.b /\ a.b < a.l.length] }
def CRG : Ann := { ann 29 [(C1, C_part.spec dDkQ)] with E := [100, 101] }
def CQV (a : DkW) : Prop := AW Try.prog CRG ASO (AK ASO) (C_win.xs a) (AF (C_win.L a)) (C_win.val a) (C_win.keep a) [] []
abbrev AOL (a : DkW) : List Span := AE a.l.length λ (i : Nat) => gD a.l i
abbrev Zq (a : DkW) : Nat := (AOL a).length
abbrev BSB (a : DkW) (i : Nat) : Span := gD (AOL a) i
abbrev AQA (a : DkW) : Int := IntKind.i64.wrap (a.x - 1)
abbrev Zl (a : DkW) : Prop := a.w.c.p.lo = a.w.c.p.lo
abbrev cI (a : DkW) : Prop := a.w.c.p.hi = a.w.c.p.hi
abbrev bH (a : DkW) : Prop := a.w.c.base = a.w.c.base
abbrev Zz (a : DkW) : Prop := a.w.c.scale = a.w.c.scale
abbrev Zd (a : DkW) : Prop := a.w.c.off = a.w.c.off
abbrev BSQ (a : DkW) : List Mk := AE a.w.c.ms.length λ (i : Nat) => gD a.w.c.ms i
abbrev wI (a : DkW) : Nat := (BSQ a).length
abbrev ARR (a : DkW) : Prop := wI a = a.w.c.ms.length
abbrev ARI (a : DkW) (i : Nat) : Mk := gD (BSQ a) i
abbrev ATB (a : DkW) (i : Nat) : Int := (ARI a i).pl
abbrev AYX (a : DkW) (i : Nat) : Int := (ARI a i).ht
abbrev AXJ (a : DkW) : Prop := ∀ (i : Nat), i < wI a -> ATB a i = (gD a.w.c.ms i).pl /\ AYX a i = (gD a.w.c.ms i).ht
abbrev Ng (a : DkW) : List Nt := AE a.w.c.ns.length λ (i : Nat) => gD a.w.c.ns i
abbrev uS (a : DkW) : Nat := (Ng a).length
abbrev BFN (a : DkW) : Prop := uS a = a.w.c.ns.length
abbrev E3 (a : DkW) (i : Nat) : Nt := gD (Ng a) i
abbrev AZK (a : DkW) (i : Nat) : Int := (E3 a i).mi
abbrev AZT (a : DkW) (i : Nat) : Span := (E3 a i).t
abbrev BAT (a : DkW) (i : Nat) : Int := (AZT a i).lo
abbrev Xp (a : DkW) (i : Nat) : Int := (gD a.w.c.ns i).t.lo
abbrev ATF (a : DkW) (i : Nat) : Int := (AZT a i).hi
abbrev Qa (a : DkW) (i : Nat) : Int := (gD a.w.c.ns i).t.hi
abbrev BHI (a : DkW) (i : Nat) : Span := (E3 a i).s
abbrev BIJ (a : DkW) (i : Nat) : Int := (BHI a i).lo
abbrev Sa (a : DkW) (i : Nat) : Int := (gD a.w.c.ns i).s.lo
abbrev BEL (a : DkW) (i : Nat) : Int := (BHI a i).hi
abbrev Mm (a : DkW) (i : Nat) : Int := (gD a.w.c.ns i).s.hi
abbrev BFY (a : DkW) : Prop := ∀ (i : Nat), i < uS a -> AZK a i = (gD a.w.c.ns i).mi /\ BAT a i = Xp a i /\ ATF a i = Qa a i /\ BIJ a i = Sa a i /\ BEL a i = Mm a i
abbrev ZX (a : DkW) : Prop := ∀ (i : Nat), i < 40 -> a.w.sp i = a.w.sp i
abbrev AXZ (a : DkW) (n : Int) : Bool := hasN (Ng a) n
abbrev AYN (a : DkW) : Prop := ∀ (n : Int), AXZ a n = hasN a.w.c.ns n
abbrev Bb (a : DkW) : Prop := ∀ (n : Int), a.w.st n = a.w.st n
abbrev zY (a : DkW) (n : Int) : Nt := ntOf (Ng a) n
abbrev ATW (a : DkW) (n : Int) : Int := (zY a n).mi
abbrev BDT (a : DkW) (n : Int) : Span := (zY a n).t
abbrev AZQ (a : DkW) (n : Int) : Int := (BDT a n).lo
abbrev AUS (a : DkW) (n : Int) : Int := (BDT a n).hi
abbrev BDM (a : DkW) (n : Int) : Span := (zY a n).s
abbrev BCW (a : DkW) (n : Int) : Int := (BDM a n).lo
abbrev AVY (a : DkW) (n : Int) : Int := (BDM a n).hi
abbrev BAC (a : DkW) : Prop := ∀ (n : Int), ATW a n = (ntOf a.w.c.ns n).mi /\ AZQ a n = (ntOf a.w.c.ns n).t.lo /\ AUS a n = (ntOf a.w.c.ns n).t.hi /\ BCW a n = (ntOf a.w.c.ns n).s.lo /\ AVY a n
 = (ntOf a.w.c.ns n).s.hi
abbrev BGD (a : DkW) : Prop := a.w.c.ms.length = wI a
abbrev BDN (i : Nat) (a : DkW) : Prop := i < a.w.c.ms.length
abbrev BDH (a : DkW) : Prop := ∀ (i : Nat), BDN i a -> (gD a.w.c.ms i).pl = ATB a i /\ (gD a.w.c.ms i).ht = AYX a i
abbrev BCV (a : DkW) : Prop := a.w.c.ns.length = uS a
abbrev AUW (i : Nat) (a : DkW) : Prop := i < a.w.c.ns.length
abbrev AZS (a : DkW) : Prop := ∀ (i : Nat), AUW i a -> (gD a.w.c.ns i).mi = AZK a i /\ Xp a i = BAT a i /\ Qa a i = ATF a i /\ Sa a i = BIJ a i /\ Mm a i = BEL a i
abbrev AXQ (a : DkW) : Prop := ∀ (n : Int), hasN a.w.c.ns n = AXZ a n
abbrev ASG (a : DkW) : Prop := ∀ (n : Int), (ntOf a.w.c.ns n).mi = ATW a n /\ (ntOf a.w.c.ns n).t.lo = AZQ a n /\ (ntOf a.w.c.ns n).t.hi = AUS a n /\ (ntOf a.w.c.ns n).s.lo = BCW a n /\ (ntOf
 a.w.c.ns n).s.hi = AVY a n
abbrev BGZ (a : DkW) : List Span := Fq (AOL a) a.a (AQA a) a.x
abbrev BDQ (a : DkW) : Nat := (BGZ a).length
abbrev H3 (a : DkW) (i : Nat) : Span := gD (BGZ a) i
abbrev D1 (a : DkW) : List Span := AE (BDQ a) λ (i : Nat) => H3 a i
abbrev Az (a : DkW) : Nat := (D1 a).length
abbrev BAW (a : DkW) (i : Nat) : Span := gD (D1 a) i
abbrev Am (a : DkW) : Int := IntKind.i64.wrap (a.b + 1)
abbrev K4 (a : DkW) : Int := IntKind.i64.wrap (a.y + 1)
abbrev AUV (a : DkW) : List Span := winL a.l a.a a.b a.x a.y
abbrev AUA (a : DkW) : Nat := (AUV a).length
abbrev BAM (a : DkW) : List Span := Fq (D1 a) (Am a) a.y (K4 a)
abbrev ATC (a : DkW) (i : Nat) : Span := gD (AUV a) i
abbrev AWF (a : DkW) (i : Nat) : Span := gD (BAM a) i
theorem CTH (a : DkW) : (CQV a) = ((Zq a = a.l.length /\ (∀ (i : Nat), i < Zq a -> (BSB a i).lo = (gD a.l i).lo /\ (BSB a i).hi = (gD a.l i).hi) /\ a.a = a.a /\ AQA a = AQA a /\ a.x = a.x /\
 Zl a /\ cI a /\ bH a /\ Zz a /\ Zd a /\ ARR a /\ AXJ a /\ BFN a /\ BFY a /\ ZX a /\ AT = AT /\ AYN a /\ Bb a /\ BAC a /\ Zl a /\ cI a /\ bH a /\ Zz
 a /\ Zd a /\ BGD a /\ BDH a /\ BCV a /\ AZS a /\ ZX a /\ AT = AT /\ AXQ a /\ Bb a /\ ASG a /\ (1 <= Zq a /\ Zq a <= 40) /\ 0 <= a.a /\ a.a <= (↑(Zq a) : Int)) /\ (Az a =
 BDQ a /\ (∀ (i : Nat), i < Az a -> (BAW a i).lo = (H3 a i).lo /\ (BAW a i).hi = (H3 a i).hi) /\ Am a = Am a /\ a.y = a.y /\ K4 a = K4 a /\ Zl a /\ cI a /\ bH
 a /\ Zz a /\ Zd a /\ ARR a /\ AXJ a /\ BFN a /\ BFY a /\ ZX a /\ AT = AT /\ AYN a /\ Bb a /\ BAC a /\ Zl a /\ cI a /\ bH a /\ Zz a /\ Zd a /\ BGD a /\
 BDH a /\ BCV a /\ AZS a /\ ZX a /\ AT = AT /\ AXQ a /\ Bb a /\ ASG a /\ (1 <= Az a /\ Az a <= 40) /\ 0 <= Am a /\ Am a <= (↑(Az a) : Int)) /\ AUA a = (BAM
 a).length /\ (∀ (i : Nat), i < AUA a -> (ATC a i).lo = (AWF a i).lo /\ (ATC a i).hi = (AWF a i).hi) /\ Zl a /\ cI a /\ bH a /\ Zz a /\ Zd a /\ a.w.c.ms.length = a.w.c.ms.length /\
 (∀ (i : Nat), BDN i a -> (gD a.w.c.ms i).pl = (gD a.w.c.ms i).pl /\ (gD a.w.c.ms i).ht = (gD a.w.c.ms i).ht) /\ a.w.c.ns.length = a.w.c.ns.length /\ (∀ (i : Nat), AUW i a -> (gD a.w.c.ns i).mi = (gD a.w.c.ns i).mi /\
 Xp a i = Xp a i /\ Qa a i = Qa a i /\ Sa a i = Sa a i /\ Mm a i = Mm a i) /\ ZX a /\ AT = AT /\ (∀ (n : Int), hasN a.w.c.ns n = hasN a.w.c.ns n) /\ Bb a /\ ∀ (n :
 Int), (ntOf a.w.c.ns n).mi = (ntOf a.w.c.ns n).mi /\ (ntOf a.w.c.ns n).t.lo = (ntOf a.w.c.ns n).t.lo /\ (ntOf a.w.c.ns n).t.hi = (ntOf a.w.c.ns n).t.hi /\ (ntOf a.w.c.ns n).s.lo = (ntOf a.w.c.ns n).s.lo /\ (ntOf a.w.c.ns
 n).s.hi = (ntOf a.w.c.ns n).s.hi) := by kernel_rfl
theorem CVW : AL Try.prog ARG (C_win.spec dDkW) := KV C_win (λ _ => CRG) [] [] CEJ (λ _ => by kernel_rfl) (λ _ => AD CDJ AI) (λ (a : DkW) h => by
 obtain ⟨⟨h1, h2⟩, ⟨h3, h4⟩, h5, h6⟩ : (1 <= a.l.length /\ a.l.length <= 40) /\ (0 <= a.a /\ a.a < a.l.length) /\ 0 <= a.b /\ a.b < a.l.length := h
 have e : IntKind.i64.wrap (a.b + 1) = a.b + 1 := CP (by omega) (by omega)
 show CQV a; rw [CTH]; delta AOL Zq BSB AQA Zl cI bH Zz Zd BSQ wI ARR ARI ATB AYX AXJ Ng uS BFN E3 AZK AZT BAT Xp ATF Qa BHI BIJ Sa BEL Mm BFY ZX AXZ AYN Bb zY ATW BDT AZQ AUS BDM BCW AVY BAC BGD BDN BDH BCV AUW AZS AXQ ASG BGZ BDQ H3 D1 Az BAW Am K4 AUV AUA BAM ATC AWF; simp only [CC, eq_self, implies_true, forall_const]; simp only [Be]
 refine ⟨⟨⟨by omega, h2⟩, h3, by omega⟩, ⟨⟨by omega, h2⟩, by omega, by omega⟩, ?_⟩
 have : winL a.l a.a a.b a.x a.y = Fq (Fq a.l a.a (IntKind.i64.wrap (a.x - 1)) a.x) (IntKind.i64.wrap (a.b + 1)) a.y (IntKind.i64.wrap (a.y + 1)) := rfl
 rw [this]; simp only [Be]
 simp) (λ _ => MD rfl rfl) _
def BVF (s : Span) : Prop := AW Try.prog (ann 5 []) AWT (AK AWT) (xS1 s) (AF []) (.int s.lo) [] [] []
theorem CEN (s : Span) : (BVF s) = (s.lo = s.lo) := by kernel_rfl
def BVB := pD dS1 λ s => .int s.lo
def CBZ (s : Span) : Prop := AW Try.prog (ann 5 []) BTW (AK BTW) (xS1 s) (AF []) (.int s.hi) [] [] []
theorem CHV (s : Span) : (CBZ s) = (s.hi = s.hi) := by kernel_rfl
def CDB := pD dS1 λ s => .int s.hi
def C_least : Ctr := { α := One, xs := λ _ => [], val := λ _ => .agg [.fn (.func TZ) [] []], keep := λ _ => [] }
def dN0c : List AVal -> Heap -> Option (One × List (Nat × Nat) × List Nat)
 | [], _ => some (default, [], [])
 | _, _ => none
def C_most : Ctr := { α := One, xs := λ _ => [], val := λ _ => .agg [.fn (.func Iq) [] []], keep := λ _ => [] }
def CDQ (x : One) : Prop := AW Try.prog (ann 2 []) BMD (AK BMD) [] (AF []) (C_least.val x) [] [] []
theorem CJT (x : One) : (CDQ x) = (True) := by kernel_rfl
def CHK (x : One) : Prop := AW Try.prog (ann 2 []) BZB (AK BZB) [] (AF []) (C_most.val x) [] [] []
theorem CNA (x : One) : (CHK x) = (True) := by kernel_rfl
theorem CEB : AL Try.prog TZ BVB := XE xS1 hS1 λ x _ => QX (A := ann 5 []) (ren := []) (fz := []) CED (by kernel_rfl) AI (by
 show BVF x; rw [CEN]; try simp)
theorem CFZ : AL Try.prog Iq CDB := XE xS1 hS1 λ x _ => QX (A := ann 5 []) (ren := []) (fz := []) CGJ (by kernel_rfl) AI (by
 show CBZ x; rw [CHV]; try simp)
theorem CMC : AL Try.prog BKT (C_least.spec dN0c) := KV C_least (λ _ => ann 2 []) [] [] CLG (λ _ => by kernel_rfl) (λ _ => AI) (λ (x : One) _ => by
 show CDQ x; rw [CJT]; try simp) (λ _ => MD rfl rfl) _
theorem COJ : AL Try.prog CAM (C_most.spec dN0c) := KV C_most (λ _ => ann 2 []) [] [] CNQ (λ _ => by kernel_rfl) (λ _ => AI) (λ (x : One) _ => by
 show CHK x; rw [CNA]; try simp) (λ _ => MD rfl rfl) _
def gLo (l : List Span) : Int := (l.map (·.lo)).foldl AY (gD l 0).lo
def gHi (l : List Span) : Int := (l.map (·.hi)).foldl AY (gD l 0).hi
def C_grL : Ctr := { α := List Span, xs := λ l => [.agg [.fn (.func TZ) [] []], .d (AV l)], val := λ l => .int (gLo l), keep := λ _ => [], pre := λ l => [0 < l.length /\ l.length < 1073741824] }
def C_grH : Ctr := { α := List Span, xs := λ l => [.agg [.fn (.func Iq) [] []], .d (AV l)], val := λ l => .int (gHi l), keep := λ _ => [], pre := λ l => [0 < l.length /\ l.length < 1073741824] }
def CQK : List AVal -> Heap -> Option (List Span × List (Nat × Nat) × List Nat)
 | [.agg [.fn (.func f) _ _], y], H => if f = TZ then match YT y H with
  | some (l, f) => some (l, [], f)
  | none => none else none
 | _, _ => none
def CSU : List AVal -> Heap -> Option (List Span × List (Nat × Nat) × List Nat)
 | [.agg [.fn (.func f) _ _], y], H => if f = Iq then match YT y H with
  | some (l, f) => some (l, [], f)
  | none => none else none
 | _, _ => none
def gr3 (l : List Span) (v : AVal) (f : List Int) : Shape := { α := NI, dflt := default, T := λ s => ⟨[(2, .bptr 201 0), (5, .int s.m), (14, .d (AV l)), (15, .int l.length), (16, .int s.k)], [(201, .live (.box [v]))]⟩, inv := λ s => s.k <= l.length /\ s.m = (f.take s.k).foldl AY (gD f 0), meas := λ s => l.length - s.k, first := [(201, 1000)] }
def CRH (l : List Span) : Ann := { ann 28 [(TZ, BVB)] with loops := λ id => if id = 3 then some [gr3 l (.fn (.func TZ) [] []) (l.map (·.lo))] else none }
def CSN (l : List Span) : Prop := AW Try.prog (CRH l) TW (AK TW) (C_grL.xs l) (AF []) (C_grL.val l) [] [] []
theorem CVN (l : List Span) : (CSN l) = (((0 : Int) <= (0 : Int) /\ (0 : Int) < (↑l.length : Int)) /\ (∃ (a : NI), (a.m = (gD l (Int.toNat (0 : Int))).lo /\ l.length = l.length /\ (∀ (i : Nat), i < l.length -> (gD l i).lo
 = (gD l i).lo /\ (gD l i).hi = (gD l i).hi) /\ (↑l.length : Int) = (↑l.length : Int) /\ (↑a.k : Int) = (0 : Int)) /\ a.k <= l.length /\ a.m = List.foldl AY (gD (List.map (λ (x : Span) => x.lo) l) (0 : Nat)) (List.take a.k
 (List.map (λ (x : Span) => x.lo) l))) /\ ∀ (a : NI), a.k <= l.length /\ a.m = List.foldl AY (gD (List.map (λ (x : Span) => x.lo) l) (0 : Nat)) (List.take a.k (List.map (λ (x : Span) => x.lo) l)) -> bif decide ((↑a.k
 : Int) < (↑l.length : Int)) then ((0 : Int) <= (↑a.k : Int) /\ (↑a.k : Int) < (↑l.length : Int)) /\ ∃ (a_2 : NI), (a_2.m = AY a.m (gD l a.k).lo /\ l.length = l.length /\ (∀ (i : Nat), i < l.length -> (gD l i).lo = (gD l
 i).lo /\ (gD l i).hi = (gD l i).hi) /\ (↑l.length : Int) = (↑l.length : Int) /\ (↑a_2.k : Int) = IntKind.i64.wrap ((↑a.k : Int) + (1 : Int))) /\ (a_2.k <= l.length /\ a_2.m = List.foldl AY (gD (List.map (λ (x : Span) =>
 x.lo) l) (0 : Nat)) (List.take a_2.k (List.map (λ (x : Span) => x.lo) l))) /\ l.length - a_2.k < l.length - a.k else gLo l = a.m) := by kernel_rfl
def CQB (l : List Span) : Ann := { ann 28 [(Iq, CDB)] with loops := λ id => if id = 3 then some [gr3 l (.fn (.func Iq) [] []) (l.map (·.hi))] else none }
def CQU (l : List Span) : Prop := AW Try.prog (CQB l) TW (AK TW) (C_grH.xs l) (AF []) (C_grH.val l) [] [] []
theorem CTY (l : List Span) : (CQU l) = (((0 : Int) <= (0 : Int) /\ (0 : Int) < (↑l.length : Int)) /\ (∃ (a : NI), (a.m = (gD l (Int.toNat (0 : Int))).hi /\ l.length = l.length /\ (∀ (i : Nat), i < l.length -> (gD l i).lo
 = (gD l i).lo /\ (gD l i).hi = (gD l i).hi) /\ (↑l.length : Int) = (↑l.length : Int) /\ (↑a.k : Int) = (0 : Int)) /\ a.k <= l.length /\ a.m = List.foldl AY (gD (List.map (λ (x : Span) => x.hi) l) (0 : Nat)) (List.take a.k
 (List.map (λ (x : Span) => x.hi) l))) /\ ∀ (a : NI), a.k <= l.length /\ a.m = List.foldl AY (gD (List.map (λ (x : Span) => x.hi) l) (0 : Nat)) (List.take a.k (List.map (λ (x : Span) => x.hi) l)) -> bif decide ((↑a.k
 : Int) < (↑l.length : Int)) then ((0 : Int) <= (↑a.k : Int) /\ (↑a.k : Int) < (↑l.length : Int)) /\ ∃ (a_2 : NI), (a_2.m = AY a.m (gD l a.k).hi /\ l.length = l.length /\ (∀ (i : Nat), i < l.length -> (gD l i).lo = (gD l
 i).lo /\ (gD l i).hi = (gD l i).hi) /\ (↑l.length : Int) = (↑l.length : Int) /\ (↑a_2.k : Int) = IntKind.i64.wrap ((↑a.k : Int) + (1 : Int))) /\ (a_2.k <= l.length /\ a_2.m = List.foldl AY (gD (List.map (λ (x : Span) =>
 x.hi) l) (0 : Nat)) (List.take a_2.k (List.map (λ (x : Span) => x.hi) l))) /\ l.length - a_2.k < l.length - a.k else gHi l = a.m) := by kernel_rfl
theorem CBJ {f : Span -> Int} {l : List Span} (h : 0 < l.length) : gD (l.map f) 0 = f (gD l 0) := AYA f h
theorem CWF : AL Try.prog Ij (C_grL.spec CQK) := KV C_grL CRH [] [] AMY (λ _ => by kernel_rfl) (λ _ => AD CEB AI) (λ (l : List Span) h => by
 obtain ⟨h1, h2⟩ : 0 < l.length /\ l.length < 1073741824 := h
 show CSN l; rw [CVN]; simp only [CC, eq_self, implies_true, forall_const, Int.toNat_zero]
 refine ⟨⟨by omega, by omega⟩, ⟨⟨0, (gD l 0).lo⟩, ⟨rfl, rfl⟩, Nat.zero_le _, by rw [CBJ h1]; rfl⟩, λ s ⟨s1, s2⟩ => ⟨λ hlt => ⟨by omega, ⟨s.k + 1, AY s.m (gD l s.k).lo⟩, ⟨rfl, (FE (by omega)).symm⟩, ⟨by show s.k + 1 <= _; omega, ?_⟩, by show l.length - (s.k + 1) < _; omega⟩, λ hge => ?_⟩⟩
 ·show AY s.m (gD l s.k).lo = _
  rw [ZF (by simp; omega), List.foldl_append, <- s2, AYA _ (by omega)]; rfl
 ·rw [s2, List.take_of_length_le (by simp; omega), CBJ h1]; rfl) (λ _ => MD rfl rfl) _
theorem CWG : AL Try.prog Ij (C_grH.spec CSU) := KV C_grH CQB [] [] AMY (λ _ => by kernel_rfl) (λ _ => AD CFZ AI) (λ (l : List Span) h => by
 obtain ⟨h1, h2⟩ : 0 < l.length /\ l.length < 1073741824 := h
 show CQU l; rw [CTY]; simp only [CC, eq_self, implies_true, forall_const, Int.toNat_zero]
 refine ⟨⟨by omega, by omega⟩, ⟨⟨0, (gD l 0).hi⟩, ⟨rfl, rfl⟩, Nat.zero_le _, by rw [CBJ h1]; rfl⟩, λ s ⟨s1, s2⟩ => ⟨λ hlt => ⟨by omega, ⟨s.k + 1, AY s.m (gD l s.k).hi⟩, ⟨rfl, (FE (by omega)).symm⟩, ⟨by show s.k + 1 <= _; omega, ?_⟩, by show l.length - (s.k + 1) < _; omega⟩, λ hge => ?_⟩⟩
 ·show AY s.m (gD l s.k).hi = _
  rw [ZF (by simp; omega), List.foldl_append, <- s2, AYA _ (by omega)]; rfl
 ·rw [s2, List.take_of_length_le (by simp; omega), CBJ h1]; rfl) (λ _ => MD rfl rfl) _
end Go.Bal
