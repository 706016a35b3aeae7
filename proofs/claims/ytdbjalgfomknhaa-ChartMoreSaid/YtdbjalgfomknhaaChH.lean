/- Package chart: spans joined; times parted. -/
import Derived.Test.YtdbjalgfomknhaaChG3
set_option linter.unusedVariables false
set_option linter.unusedSimpArgs false
namespace Go.Bal
open Go Go.Sym Go.Proofs
structure Hul where
 s : Span
 m : Bool
 deriving Inhabited
def hlB (h : Hul) : AObj := .box [.int h.s.lo, .int h.s.hi, .bool h.m]
def MJ (h : Hul) (s : Span) : Hul := ⟨⟨bif h.m then IC s.lo h.s.lo else s.lo, bif h.m then BJ s.hi h.s.hi else s.hi⟩, true⟩
structure HuS where
 h : Hul
 s : Span
def DKH (H : Heap) (id : Nat) : Option Hul := match H id with
 | .live (.box [.d a, .d b, .d c]) => some ⟨⟨CD a, CD b⟩, DRU c⟩
 | _ => none
def dHuS : List AVal -> Heap -> Option (HuS × List (Nat × Nat) × List Nat)
 | [.bptr id _, .d s], H => match DKH H id with
  | some h => some (⟨h, MR s⟩, [(100, id)], [])
  | none => none
 | _, _ => none
def C_hadd : Ctr := { α := HuS, xs := λ a => [.bptr 100 0, .d (CE a.s)], L := λ a => [(100, hlB a.h)], val := λ _ => .d (.tup []), keep := λ a => [(100, .live (hlB (MJ a.h a.s)))] }
def DEN : Ann := { ann 32 [] with E := [100] }
def DBB (a : HuS) : Prop := AZ Try.prog DEN CQV (AN CQV) (C_hadd.xs a) (AF (C_hadd.L a)) (C_hadd.val a) (C_hadd.keep a) [] []
theorem DIM (a : HuS) : (DBB a) = (bif a.h.m then (MJ a.h a.s).s.lo = IC a.s.lo a.h.s.lo /\ (MJ a.h a.s).s.hi = BJ a.s.hi a.h.s.hi /\ true = true else (MJ a.h a.s).s.lo = a.s.lo /\ (MJ a.h a.s).s.hi =
 a.s.hi /\ true = true) := by kernel_rfl
theorem CLQ : AP Try.prog AYF (C_hadd.spec dHuS) := MC C_hadd (λ _ => DEN) [] [] DHY (λ _ => by kernel_rfl) (λ _ => AK) (λ (a : HuS) _ => by
 show DBB a; rw [DIM]; simp only [CC, eq_self, implies_true, forall_const]
 refine ⟨λ h => ?_, λ h => ?_⟩ <;> · unfold MJ; rw [h]; exact ⟨rfl, rfl⟩) (λ _ => MO rfl rfl) _
def IF (h : Hul) : Span × Int := bif h.m then (h.s, 0) else (⟨0, 0⟩, 5)
def dHu1 : List AVal -> Heap -> Option (Hul × List (Nat × Nat) × List Nat)
 | [.bptr id _], H => match DKH H id with
  | some h => some (h, [(100, id)], [])
  | none => none
 | _, _ => none
def C_who : Ctr := { ro := [100], α := Hul, xs := λ _ => [.bptr 100 0], L := λ h => [(100, hlB h)], val := λ h => .tup [.d (CE (IF h).1), .int (IF h).2], keep := λ h => [(100, .live (hlB h))] }
def DKN : Ann := { ann 14 [] with E := [100] }
def DLU (h : Hul) : Prop := AZ Try.prog DKN CJV (AN CJV) (C_who.xs h) (AF (C_who.L h)) (C_who.val h) (C_who.keep h) [] []
theorem DMZ (h : Hul) : (DLU h) = (bif !h.m then (IF h).fst.lo = 0 /\ (IF h).fst.hi = 0 /\ (IF h).snd = 5 /\ h.s.lo = h.s.lo /\ h.s.hi = h.s.hi /\ h.m = h.m else (IF h).fst.lo = h.s.lo /\ (IF h).fst.hi = h.s.hi
 /\ (IF h).snd = 0 /\ h.s.lo = h.s.lo /\ h.s.hi = h.s.hi /\ h.m = h.m) := by kernel_rfl
theorem CRW : AP Try.prog P5 (C_who.spec dHu1) := MC C_who (λ _ => DKN) [] [] DCD (λ _ => by kernel_rfl) (λ _ => AK) (λ (h : Hul) _ => by
 show DLU h; rw [DMZ]; simp only [CC, eq_self, implies_true, forall_const]
 refine ⟨λ q => ?_, λ q => ?_⟩ <;> · unfold IF; rw [q]; exact ⟨rfl, rfl, rfl⟩) (λ _ => MO rfl rfl) _
structure DkQ where
 w : Dk
 l : List Span
 k : Int
 a : Int
 b : Int
def parM (l : List Span) (k a b : Int) (i : Nat) : Span := ⟨bif decide (i = k.toNat) && decide (k < l.length) then BJ (gD l i).lo b else (gD l i).lo, bif decide (k > 0) && decide (i = (k - 1).toNat) then IC (gD l i).hi a else (gD l i).hi⟩
def Re (l : List Span) (k a b : Int) : List Span := AE l.length (parM l k a b)
def dDkQ : List AVal -> Heap -> Option (DkQ × List (Nat × Nat) × List Nat)
 | [.bptr id _, y, .d k, .d a, .d b], H => match rT H id, Bg y H with
  | some (w, q), some (l, f) => some (⟨w, l, CD k, CD a, CD b⟩, [(100, id), (101, q)], f)
  | _, _ => none
 | _, _ => none
def C_part : Ctr := { ro := [100, 101], α := DkQ, xs := λ a => [.bptr 100 0, .d (AV a.l), .int a.k, .int a.a, .int a.b], L := λ a => dkL a.w, val := λ a => .d (AV (Re a.l a.k a.a a.b)), keep := λ a => dkK a.w, pre := λ a => [(1 <= a.l.length /\ a.l.length <= 40) /\ 0 <= a.k /\ a.k <= a.l.length] }
def DES : Ann := { ann 45 [(ABJ, C_clo.spec dSs1)] with E := [100, 101] }
def DAI (a : DkQ) : Prop := AZ Try.prog DES BYL (AN BYL) (C_part.xs a) (AF (C_part.L a)) (C_part.val a) (C_part.keep a) [] [2016]
abbrev Gi (a : DkQ) : List Span := AE a.l.length λ (i : Nat) => gD a.l i
abbrev FL (a : DkQ) : Nat := (Gi a).length
abbrev BMZ (a : DkQ) (i : Nat) : Span := gD (Gi a) i
abbrev AAN (a : DkQ) : Int := IntKind.i64.wrap (a.k - 1)
abbrev BWR (a : DkQ) : Prop := 0 <= AAN a /\ AAN a < (↑(FL a) : Int)
abbrev Co (a : DkQ) : Nat := 0 + (AAN a).toNat
abbrev BLM (a : DkQ) : Prop := a.k < (↑(FL a) : Int)
abbrev BZB (a : DkQ) : Bool := decide (BLM a)
abbrev BTY (a : DkQ) : Prop := 0 <= a.k /\ BLM a
abbrev Cu (a : DkQ) : Nat := 0 + a.k.toNat
abbrev AOV (a : DkQ) : Prop := BTY a /\ Cu a < FL a /\ BTY a /\ (Cu a).succ.le (FL a)
abbrev AFI (a : DkQ) : Nat := (Re a.l a.k a.a a.b).length
abbrev Gm (a : DkQ) : Prop := AFI a = FL a
abbrev Bq (a : DkQ) : Prop := 0 + FL a <= FL a
abbrev Ef (j : Nat) (a : DkQ) : Prop := j < AFI a
abbrev APU (a : DkQ) (j : Nat) : Span := gD (Re a.l a.k a.a a.b) j
abbrev Bp (a : DkQ) (j : Nat) : Int := (APU a j).lo
abbrev eC (j : Nat) : Nat := 0 + j
abbrev Eu (j : Nat) (a : DkQ) : Bool := decide (eC j = Cu a)
abbrev AMX (a : DkQ) : Bool := decide (Cu a = Co a)
abbrev AWY (a : DkQ) : Span := gD (Gi a) (Co a)
abbrev ALK (a : DkQ) : Int := (AWY a).lo
abbrev AJE (a : DkQ) : Span := gD (Gi a) (Cu a)
abbrev AHD (a : DkQ) : Int := (AJE a).lo
abbrev AHQ (j : Nat) (a : DkQ) : Bool := decide (eC j = Co a)
abbrev AZE (a : DkQ) (j : Nat) : Span := gD (Gi a) (eC j)
abbrev nJ (a : DkQ) (j : Nat) : Int := (AZE a j).lo
abbrev AQD (j : Nat) (a : DkQ) : Int := bif AHQ j a then ALK a else nJ a j
abbrev Fy (a : DkQ) (j : Nat) : Int := (APU a j).hi
abbrev BBS (a : DkQ) : Int := IC (AWY a).hi a.a
abbrev AGP (a : DkQ) : Int := (AJE a).hi
abbrev qK (a : DkQ) (j : Nat) : Int := (AZE a j).hi
abbrev AVF (j : Nat) (a : DkQ) : Int := bif AHQ j a then BBS a else qK a j
abbrev ASY (a : DkQ) (i : Nat) : Int := (gD a.w.c.ns i).t.lo
abbrev AMT (a : DkQ) (i : Nat) : Int := (gD a.w.c.ns i).t.hi
abbrev AJI (a : DkQ) (i : Nat) : Int := (gD a.w.c.ns i).s.lo
abbrev AHK (a : DkQ) (i : Nat) : Int := (gD a.w.c.ns i).s.hi
abbrev Ew (a : DkQ) : Prop := a.w.c.p.lo = a.w.c.p.lo /\ a.w.c.p.hi = a.w.c.p.hi /\ a.w.c.base = a.w.c.base /\ a.w.c.scale = a.w.c.scale /\ a.w.c.off = a.w.c.off /\ a.w.c.ms.length = a.w.c.ms.length /\ (∀ (i : Nat), i <
 a.w.c.ms.length -> (gD a.w.c.ms i).pl = (gD a.w.c.ms i).pl /\ (gD a.w.c.ms i).ht = (gD a.w.c.ms i).ht) /\ a.w.c.ns.length = a.w.c.ns.length /\ (∀ (i : Nat), i < a.w.c.ns.length -> (gD a.w.c.ns i).mi = (gD a.w.c.ns i).mi /\
 ASY a i = ASY a i /\ AMT a i = AMT a i /\ AJI a i = AJI a i /\ AHK a i = AHK a i) /\ (∀ (i : Nat), i < 40 -> a.w.sp i = a.w.sp i) /\ AU = AU /\ (∀ (n : Int), hasN a.w.c.ns n =
 hasN a.w.c.ns n) /\ (∀ (n : Int), a.w.st n = a.w.st n) /\ ∀ (n : Int), (ntOf a.w.c.ns n).mi = (ntOf a.w.c.ns n).mi /\ (ntOf a.w.c.ns n).t.lo = (ntOf a.w.c.ns n).t.lo /\ (ntOf a.w.c.ns n).t.hi = (ntOf a.w.c.ns n).t.hi /\ (ntOf
 a.w.c.ns n).s.lo = (ntOf a.w.c.ns n).s.lo /\ (ntOf a.w.c.ns n).s.hi = (ntOf a.w.c.ns n).s.hi
theorem DHP (a : DkQ) : (DAI a) = ((FL a = a.l.length /\ (∀ (i : Nat), i < FL a -> (BMZ a i).lo = (gD a.l i).lo /\ (BMZ a i).hi = (gD a.l i).hi) /\ 0 < FL a /\ FL a < 1073741824) /\ bif
 decide (a.k > 0) then (BWR a /\ Co a < FL a /\ BWR a /\ (Co a).succ.le (FL a)) /\ bif BZB a then AOV a /\ Gm a /\ Bq a /\ (∀ (j : Nat), Ef j a -> (Bp a j =
 bif Eu j a then BJ (bif AMX a then ALK a else AHD a) a.b else AQD j a) /\ Fy a j = bif Eu j a then bif AMX a then BBS a else AGP a else AVF j a) /\
 Ew a else Gm a /\ Bq a /\ (∀ (j : Nat), Ef j a -> Bp a j = AQD j a /\ Fy a j = AVF j a) /\ Ew a else bif BZB a then AOV a /\ Gm a /\ Bq a /\
 (∀ (j : Nat), Ef j a -> (Bp a j = bif Eu j a then BJ (AHD a) a.b else nJ a j) /\ Fy a j = bif Eu j a then AGP a else qK a j) /\ Ew a else Gm a /\
 Bq a /\ (∀ (j : Nat), Ef j a -> Bp a j = nJ a j /\ Fy a j = qK a j) /\ Ew a) := by kernel_rfl
theorem Bo (l : List Span) (k a b : Int) : (Re l k a b).length = l.length := rng_length _ _
theorem CUV : AP Try.prog ACV (C_part.spec dDkQ) := MC C_part (λ _ => DES) [] [2016] CXQ (λ _ => by kernel_rfl) (λ _ => AD CZA AK) (λ (a : DkQ) h => by
 obtain ⟨⟨h1, h2⟩, h3, h4⟩ : (1 <= a.l.length /\ a.l.length <= 40) /\ 0 <= a.k /\ a.k <= a.l.length := h
 have e : IntKind.i64.wrap (a.k - 1) = a.k - 1 := EM (by omega) (by omega)
 have gj : ∀ {j : Nat}, j < a.l.length -> gD (Re a.l a.k a.a a.b) j = parM a.l a.k a.a a.b j := λ hj => CB _ _ _ hj
 have t : (a.k - 1).toNat = a.k.toNat - 1 := by omega
 show DAI a; rw [DHP]; delta Gi FL BMZ AAN BWR Co BLM BZB BTY Cu AOV AFI Gm Bq Ef APU Bp eC Eu AMX AWY ALK AJE AHD AHQ AZE nJ AQD Fy BBS AGP qK AVF ASY AMT AJI AHK Ew; simp only [CC, eq_self, implies_true, forall_const, e, Bo, t]
 refine ⟨⟨by omega, by omega⟩, λ hk => ⟨⟨⟨by omega, by omega⟩, by omega, ⟨by omega, by omega⟩, by omega⟩, λ hl => ⟨⟨⟨by omega, by omega⟩, by omega, ⟨by omega, by omega⟩, by omega⟩, Nat.le_refl _, λ j hj => ?_⟩, λ hl => ⟨Nat.le_refl _, λ j hj => ?_⟩⟩, λ hk => ⟨λ hl => ⟨⟨⟨by omega, by omega⟩, by omega, ⟨by omega, by omega⟩, by omega⟩, Nat.le_refl _, λ j hj => ?_⟩, λ hl => by omega⟩⟩
 ·rw [gj hj]; unfold parM; rw [t]
  have q0 : ¬ a.k.toNat = a.k.toNat - 1 := by omega
  by_cases q1 : j = a.k.toNat
  ·subst q1
   simp [hk, hl, q0]
  ·by_cases q2 : j = a.k.toNat - 1
   ·simp only [decide_eq_false q1, decide_eq_true q2, decide_eq_true hk, Bool.false_and, Bool.and_self, cond_true, cond_false]
    rw [q2]; exact ⟨rfl, rfl⟩
   ·simp [hk, q1, q2]
 ·rw [gj hj]; unfold parM; rw [t]
  by_cases q2 : j = a.k.toNat - 1
  ·simp only [decide_eq_true q2, decide_eq_true hk, decide_eq_false hl, Bool.and_false, Bool.and_self, cond_true, cond_false]
   rw [q2]; exact ⟨rfl, rfl⟩
  ·simp [hl, q2]
 ·rw [gj hj]; unfold parM; rw [t]
  by_cases q1 : j = a.k.toNat
  ·subst q1
   simp [hk, hl]
  ·simp [hk, q1]) (λ _ => MO rfl rfl) _
structure DkW where
 w : Dk
 l : List Span
 a : Int
 b : Int
 x : Int
 y : Int
def winL (l : List Span) (a b x y : Int) : List Span := Re (Re l a (wr (x - 1)) x) (wr (b + 1)) y (wr (y + 1))
def dDkW : List AVal -> Heap -> Option (DkW × List (Nat × Nat) × List Nat)
 | [.bptr id _, y, .d k, .d a, .d b, .d c], H => match rT H id, Bg y H with
  | some (w, q), some (l, f) => some (⟨w, l, CD k, CD a, CD b, CD c⟩, [(100, id), (101, q)], f)
  | _, _ => none
 | _, _ => none
def C_win : Ctr := { ro := [100, 101], α := DkW, xs := λ a => [.bptr 100 0, .d (AV a.l), .int a.a, .int a.b, .int a.x, .int a.y], L := λ a => dkL a.w, val := λ a => .d (AV (winL a.l a.a a.b a.x a.y)), keep := λ a => dkK a.w, pre := λ a => [(1 <= a.l.length /\ a.l.length <= 40) /\ (0 <= a.a /\ a.a < a.l.length) /\ 0 <= a.b /\ a.b < a.l.length] }
def DLV : Ann := { ann 29 [(ACV, C_part.spec dDkQ)] with E := [100, 101] }
def DMC (a : DkW) : Prop := AZ Try.prog DLV BUS (AN BUS) (C_win.xs a) (AF (C_win.L a)) (C_win.val a) (C_win.keep a) [] []
abbrev BGZ (a : DkW) : List Span := AE a.l.length λ (i : Nat) => gD a.l i
abbrev nF (a : DkW) : Nat := (BGZ a).length
abbrev CHL (a : DkW) (i : Nat) : Span := gD (BGZ a) i
abbrev BGY (a : DkW) : Int := IntKind.i64.wrap (a.x - 1)
abbrev jF (a : DkW) : Prop := a.w.c.p.lo = a.w.c.p.lo
abbrev qJ (a : DkW) : Prop := a.w.c.p.hi = a.w.c.p.hi
abbrev pI (a : DkW) : Prop := a.w.c.base = a.w.c.base
abbrev nW (a : DkW) : Prop := a.w.c.scale = a.w.c.scale
abbrev cY (a : DkW) : Prop := a.w.c.off = a.w.c.off
abbrev CDO (a : DkW) : List Mk := AE a.w.c.ms.length λ (i : Nat) => gD a.w.c.ms i
abbrev R5 (a : DkW) : Nat := (CDO a).length
abbrev CAE (a : DkW) : Prop := R5 a = a.w.c.ms.length
abbrev BLZ (a : DkW) (i : Nat) : Mk := gD (CDO a) i
abbrev BZA (a : DkW) (i : Nat) : Int := (BLZ a i).pl
abbrev BVZ (a : DkW) (i : Nat) : Int := (BLZ a i).ht
abbrev BSM (a : DkW) : Prop := ∀ (i : Nat), i < R5 a -> BZA a i = (gD a.w.c.ms i).pl /\ BVZ a i = (gD a.w.c.ms i).ht
abbrev aK (a : DkW) : List Nt := AE a.w.c.ns.length λ (i : Nat) => gD a.w.c.ns i
abbrev R1 (a : DkW) : Nat := (aK a).length
abbrev BPI (a : DkW) : Prop := R1 a = a.w.c.ns.length
abbrev AEP (a : DkW) (i : Nat) : Nt := gD (aK a) i
abbrev CBF (a : DkW) (i : Nat) : Int := (AEP a i).mi
abbrev BTX (a : DkW) (i : Nat) : Span := (AEP a i).t
abbrev BJR (a : DkW) (i : Nat) : Int := (BTX a i).lo
abbrev Qj (a : DkW) (i : Nat) : Int := (gD a.w.c.ns i).t.lo
abbrev BPE (a : DkW) (i : Nat) : Int := (BTX a i).hi
abbrev Nv (a : DkW) (i : Nat) : Int := (gD a.w.c.ns i).t.hi
abbrev BUB (a : DkW) (i : Nat) : Span := (AEP a i).s
abbrev BNI (a : DkW) (i : Nat) : Int := (BUB a i).lo
abbrev Uh (a : DkW) (i : Nat) : Int := (gD a.w.c.ns i).s.lo
abbrev CAH (a : DkW) (i : Nat) : Int := (BUB a i).hi
abbrev Nr (a : DkW) (i : Nat) : Int := (gD a.w.c.ns i).s.hi
abbrev BWW (a : DkW) : Prop := ∀ (i : Nat), i < R1 a -> CBF a i = (gD a.w.c.ns i).mi /\ BJR a i = Qj a i /\ BPE a i = Nv a i /\ BNI a i = Uh a i /\ CAH a i = Nr a i
abbrev Cj (a : DkW) : Prop := ∀ (i : Nat), i < 40 -> a.w.sp i = a.w.sp i
abbrev BTK (a : DkW) (n : Int) : Bool := hasN (aK a) n
abbrev BLI (a : DkW) : Prop := ∀ (n : Int), BTK a n = hasN a.w.c.ns n
abbrev Bt (a : DkW) : Prop := ∀ (n : Int), a.w.st n = a.w.st n
abbrev ABR (a : DkW) (n : Int) : Nt := ntOf (aK a) n
abbrev BJP (a : DkW) (n : Int) : Int := (ABR a n).mi
abbrev BYH (a : DkW) (n : Int) : Span := (ABR a n).t
abbrev BTI (a : DkW) (n : Int) : Int := (BYH a n).lo
abbrev CAV (a : DkW) (n : Int) : Int := (BYH a n).hi
abbrev BLB (a : DkW) (n : Int) : Span := (ABR a n).s
abbrev BOX (a : DkW) (n : Int) : Int := (BLB a n).lo
abbrev BRA (a : DkW) (n : Int) : Int := (BLB a n).hi
abbrev BLJ (a : DkW) : Prop := ∀ (n : Int), BJP a n = (ntOf a.w.c.ns n).mi /\ BTI a n = (ntOf a.w.c.ns n).t.lo /\ CAV a n = (ntOf a.w.c.ns n).t.hi /\ BOX a n = (ntOf a.w.c.ns n).s.lo /\ BRA a n
 = (ntOf a.w.c.ns n).s.hi
abbrev BQS (a : DkW) : Prop := a.w.c.ms.length = R5 a
abbrev BVB (i : Nat) (a : DkW) : Prop := i < a.w.c.ms.length
abbrev BJG (a : DkW) : Prop := ∀ (i : Nat), BVB i a -> (gD a.w.c.ms i).pl = BZA a i /\ (gD a.w.c.ms i).ht = BVZ a i
abbrev BUP (a : DkW) : Prop := a.w.c.ns.length = R1 a
abbrev BKZ (i : Nat) (a : DkW) : Prop := i < a.w.c.ns.length
abbrev BNL (a : DkW) : Prop := ∀ (i : Nat), BKZ i a -> (gD a.w.c.ns i).mi = CBF a i /\ Qj a i = BJR a i /\ Nv a i = BPE a i /\ Uh a i = BNI a i /\ Nr a i = CAH a i
abbrev BSN (a : DkW) : Prop := ∀ (n : Int), hasN a.w.c.ns n = BTK a n
abbrev BSH (a : DkW) : Prop := ∀ (n : Int), (ntOf a.w.c.ns n).mi = BJP a n /\ (ntOf a.w.c.ns n).t.lo = BTI a n /\ (ntOf a.w.c.ns n).t.hi = CAV a n /\ (ntOf a.w.c.ns n).s.lo = BOX a n /\ (ntOf
 a.w.c.ns n).s.hi = BRA a n
abbrev BWF (a : DkW) : List Span := Re (BGZ a) a.a (BGY a) a.x
abbrev BND (a : DkW) : Nat := (BWF a).length
abbrev ADB (a : DkW) (i : Nat) : Span := gD (BWF a) i
abbrev O6 (a : DkW) : List Span := AE (BND a) λ (i : Nat) => ADB a i
abbrev Fs (a : DkW) : Nat := (O6 a).length
abbrev BUH (a : DkW) (i : Nat) : Span := gD (O6 a) i
abbrev Fj (a : DkW) : Int := IntKind.i64.wrap (a.b + 1)
abbrev AAO (a : DkW) : Int := IntKind.i64.wrap (a.y + 1)
abbrev BTR (a : DkW) : List Span := winL a.l a.a a.b a.x a.y
abbrev BXB (a : DkW) : Nat := (BTR a).length
abbrev BVC (a : DkW) : List Span := Re (O6 a) (Fj a) a.y (AAO a)
abbrev BMW (a : DkW) (i : Nat) : Span := gD (BTR a) i
abbrev BRH (a : DkW) (i : Nat) : Span := gD (BVC a) i
theorem DNJ (a : DkW) : (DMC a) = ((nF a = a.l.length /\ (∀ (i : Nat), i < nF a -> (CHL a i).lo = (gD a.l i).lo /\ (CHL a i).hi = (gD a.l i).hi) /\ a.a = a.a /\ BGY a = BGY a /\ a.x = a.x /\
 jF a /\ qJ a /\ pI a /\ nW a /\ cY a /\ CAE a /\ BSM a /\ BPI a /\ BWW a /\ Cj a /\ AU = AU /\ BLI a /\ Bt a /\ BLJ a /\ jF a /\ qJ a /\ pI a /\ nW
 a /\ cY a /\ BQS a /\ BJG a /\ BUP a /\ BNL a /\ Cj a /\ AU = AU /\ BSN a /\ Bt a /\ BSH a /\ (1 <= nF a /\ nF a <= 40) /\ 0 <= a.a /\ a.a <= (↑(nF a) : Int)) /\ (Fs a =
 BND a /\ (∀ (i : Nat), i < Fs a -> (BUH a i).lo = (ADB a i).lo /\ (BUH a i).hi = (ADB a i).hi) /\ Fj a = Fj a /\ a.y = a.y /\ AAO a = AAO a /\ jF a /\ qJ a /\ pI
 a /\ nW a /\ cY a /\ CAE a /\ BSM a /\ BPI a /\ BWW a /\ Cj a /\ AU = AU /\ BLI a /\ Bt a /\ BLJ a /\ jF a /\ qJ a /\ pI a /\ nW a /\ cY a /\ BQS a /\
 BJG a /\ BUP a /\ BNL a /\ Cj a /\ AU = AU /\ BSN a /\ Bt a /\ BSH a /\ (1 <= Fs a /\ Fs a <= 40) /\ 0 <= Fj a /\ Fj a <= (↑(Fs a) : Int)) /\ BXB a = (BVC
 a).length /\ (∀ (i : Nat), i < BXB a -> (BMW a i).lo = (BRH a i).lo /\ (BMW a i).hi = (BRH a i).hi) /\ jF a /\ qJ a /\ pI a /\ nW a /\ cY a /\ a.w.c.ms.length = a.w.c.ms.length /\
 (∀ (i : Nat), BVB i a -> (gD a.w.c.ms i).pl = (gD a.w.c.ms i).pl /\ (gD a.w.c.ms i).ht = (gD a.w.c.ms i).ht) /\ a.w.c.ns.length = a.w.c.ns.length /\ (∀ (i : Nat), BKZ i a -> (gD a.w.c.ns i).mi = (gD a.w.c.ns i).mi /\
 Qj a i = Qj a i /\ Nv a i = Nv a i /\ Uh a i = Uh a i /\ Nr a i = Nr a i) /\ Cj a /\ AU = AU /\ (∀ (n : Int), hasN a.w.c.ns n = hasN a.w.c.ns n) /\ Bt a /\ ∀ (n :
 Int), (ntOf a.w.c.ns n).mi = (ntOf a.w.c.ns n).mi /\ (ntOf a.w.c.ns n).t.lo = (ntOf a.w.c.ns n).t.lo /\ (ntOf a.w.c.ns n).t.hi = (ntOf a.w.c.ns n).t.hi /\ (ntOf a.w.c.ns n).s.lo = (ntOf a.w.c.ns n).s.lo /\ (ntOf a.w.c.ns
 n).s.hi = (ntOf a.w.c.ns n).s.hi) := by kernel_rfl
theorem DPE : AP Try.prog BOM (C_win.spec dDkW) := MC C_win (λ _ => DLV) [] [] CWY (λ _ => by kernel_rfl) (λ _ => AD CUV AK) (λ (a : DkW) h => by
 obtain ⟨⟨h1, h2⟩, ⟨h3, h4⟩, h5, h6⟩ : (1 <= a.l.length /\ a.l.length <= 40) /\ (0 <= a.a /\ a.a < a.l.length) /\ 0 <= a.b /\ a.b < a.l.length := h
 have e : IntKind.i64.wrap (a.b + 1) = a.b + 1 := EM (by omega) (by omega)
 show DMC a; rw [DNJ]; delta BGZ nF CHL BGY jF qJ pI nW cY CDO R5 CAE BLZ BZA BVZ BSM aK R1 BPI AEP CBF BTX BJR Qj BPE Nv BUB BNI Uh CAH Nr BWW Cj BTK BLI Bt ABR BJP BYH BTI CAV BLB BOX BRA BLJ BQS BVB BJG BUP BKZ BNL BSN BSH BWF BND ADB O6 Fs BUH Fj AAO BTR BXB BVC BMW BRH; simp only [CC, eq_self, implies_true, forall_const]; simp only [Bo]
 refine ⟨⟨⟨by omega, h2⟩, h3, by omega⟩, ⟨⟨by omega, h2⟩, by omega, by omega⟩, ?_⟩
 have : winL a.l a.a a.b a.x a.y = Re (Re a.l a.a (IntKind.i64.wrap (a.x - 1)) a.x) (IntKind.i64.wrap (a.b + 1)) a.y (IntKind.i64.wrap (a.y + 1)) := rfl
 rw [this]; simp only [Bo]
 simp) (λ _ => MO rfl rfl) _
def COF (s : Span) : Prop := AZ Try.prog (ann 5 []) BVE (AN BVE) (xS1 s) (AF []) (.int s.lo) [] [] []
theorem CWO (s : Span) : (COF s) = (s.lo = s.lo) := by kernel_rfl
def CNT := pD dS1 λ s => .int s.lo
def CWG (s : Span) : Prop := AZ Try.prog (ann 5 []) CJL (AN CJL) (xS1 s) (AF []) (.int s.hi) [] [] []
theorem DBS (s : Span) : (CWG s) = (s.hi = s.hi) := by kernel_rfl
def CVE := pD dS1 λ s => .int s.hi
def C_least : Ctr := { α := One, xs := λ _ => [], val := λ _ => .agg [.fn (.func WK) [] []], keep := λ _ => [] }
def dN0c : List AVal -> Heap -> Option (One × List (Nat × Nat) × List Nat)
 | [], _ => some (default, [], [])
 | _, _ => none
def C_most : Ctr := { α := One, xs := λ _ => [], val := λ _ => .agg [.fn (.func Kw) [] []], keep := λ _ => [] }
def CVQ (x : One) : Prop := AZ Try.prog (ann 2 []) CLZ (AN CLZ) [] (AF []) (C_least.val x) [] [] []
theorem DCW (x : One) : (CVQ x) = (True) := by kernel_rfl
def DCG (x : One) : Prop := AZ Try.prog (ann 2 []) CTF (AN CTF) [] (AF []) (C_most.val x) [] [] []
theorem DHZ (x : One) : (DCG x) = (True) := by kernel_rfl
theorem CXO : AP Try.prog WK CNT := Ba xS1 hS1 λ x _ => TV (A := ann 5 []) (ren := []) (fz := []) CXS (by kernel_rfl) AK (by
 show COF x; rw [CWO]; try simp)
theorem DFH : AP Try.prog Kw CVE := Ba xS1 hS1 λ x _ => TV (A := ann 5 []) (ren := []) (fz := []) DCO (by kernel_rfl) AK (by
 show CWG x; rw [DBS]; try simp)
theorem DAO : AP Try.prog CME (C_least.spec dN0c) := MC C_least (λ _ => ann 2 []) [] [] DAN (λ _ => by kernel_rfl) (λ _ => AK) (λ (x : One) _ => by
 show CVQ x; rw [DCW]; try simp) (λ _ => MO rfl rfl) _
theorem DGK : AP Try.prog CQH (C_most.spec dN0c) := MC C_most (λ _ => ann 2 []) [] [] DIZ (λ _ => by kernel_rfl) (λ _ => AK) (λ (x : One) _ => by
 show DCG x; rw [DHZ]; try simp) (λ _ => MO rfl rfl) _
def gLo (l : List Span) : Int := (l.map (·.lo)).foldl BJ (gD l 0).lo
def gHi (l : List Span) : Int := (l.map (·.hi)).foldl BJ (gD l 0).hi
def C_grL : Ctr := { α := List Span, xs := λ l => [.agg [.fn (.func WK) [] []], .d (AV l)], val := λ l => .int (gLo l), keep := λ _ => [], pre := λ l => [0 < l.length /\ l.length < 1073741824] }
def C_grH : Ctr := { α := List Span, xs := λ l => [.agg [.fn (.func Kw) [] []], .d (AV l)], val := λ l => .int (gHi l), keep := λ _ => [], pre := λ l => [0 < l.length /\ l.length < 1073741824] }
def DJY : List AVal -> Heap -> Option (List Span × List (Nat × Nat) × List Nat)
 | [.agg [.fn (.func f) _ _], y], H => if f = WK then match Bg y H with
  | some (l, f) => some (l, [], f)
  | none => none else none
 | _, _ => none
def DMI : List AVal -> Heap -> Option (List Span × List (Nat × Nat) × List Nat)
 | [.agg [.fn (.func f) _ _], y], H => if f = Kw then match Bg y H with
  | some (l, f) => some (l, [], f)
  | none => none else none
 | _, _ => none
def gr3 (l : List Span) (v : AVal) (f : List Int) : Shape := { α := NI, dflt := default, T := λ s => ⟨[(2, .bptr 201 0), (5, .int s.m), (14, .d (AV l)), (15, .int l.length), (16, .int s.k)], [(201, .live (.box [v]))]⟩, inv := λ s => s.k <= l.length /\ s.m = (f.take s.k).foldl BJ (gD f 0), meas := λ s => l.length - s.k, first := [(201, 1000)] }
def DKM (l : List Span) : Ann := { ann 28 [(WK, CNT)] with loops := λ id => if id = 3 then some [gr3 l (.fn (.func WK) [] []) (l.map (·.lo))] else none }
def DMG (l : List Span) : Prop := AZ Try.prog (DKM l) WZ (AN WZ) (C_grL.xs l) (AF []) (C_grL.val l) [] [] []
theorem DOT (l : List Span) : (DMG l) = (((0 : Int) <= (0 : Int) /\ (0 : Int) < (↑l.length : Int)) /\ (∃ (a : NI), (a.m = (gD l (Int.toNat (0 : Int))).lo /\ l.length = l.length /\ (∀ (i : Nat), i < l.length -> (gD l i).lo
 = (gD l i).lo /\ (gD l i).hi = (gD l i).hi) /\ (↑l.length : Int) = (↑l.length : Int) /\ (↑a.k : Int) = (0 : Int)) /\ a.k <= l.length /\ a.m = List.foldl BJ (gD (List.map (λ (x : Span) => x.lo) l) (0 : Nat)) (List.take a.k
 (List.map (λ (x : Span) => x.lo) l))) /\ ∀ (a : NI), a.k <= l.length /\ a.m = List.foldl BJ (gD (List.map (λ (x : Span) => x.lo) l) (0 : Nat)) (List.take a.k (List.map (λ (x : Span) => x.lo) l)) -> bif decide ((↑a.k
 : Int) < (↑l.length : Int)) then ((0 : Int) <= (↑a.k : Int) /\ (↑a.k : Int) < (↑l.length : Int)) /\ ∃ (a_2 : NI), (a_2.m = BJ a.m (gD l a.k).lo /\ l.length = l.length /\ (∀ (i : Nat), i < l.length -> (gD l i).lo = (gD l
 i).lo /\ (gD l i).hi = (gD l i).hi) /\ (↑l.length : Int) = (↑l.length : Int) /\ (↑a_2.k : Int) = IntKind.i64.wrap ((↑a.k : Int) + (1 : Int))) /\ (a_2.k <= l.length /\ a_2.m = List.foldl BJ (gD (List.map (λ (x : Span) =>
 x.lo) l) (0 : Nat)) (List.take a_2.k (List.map (λ (x : Span) => x.lo) l))) /\ l.length - a_2.k < l.length - a.k else gLo l = a.m) := by kernel_rfl
def DJT (l : List Span) : Ann := { ann 28 [(Kw, CVE)] with loops := λ id => if id = 3 then some [gr3 l (.fn (.func Kw) [] []) (l.map (·.hi))] else none }
def DKF (l : List Span) : Prop := AZ Try.prog (DJT l) WZ (AN WZ) (C_grH.xs l) (AF []) (C_grH.val l) [] [] []
theorem DOU (l : List Span) : (DKF l) = (((0 : Int) <= (0 : Int) /\ (0 : Int) < (↑l.length : Int)) /\ (∃ (a : NI), (a.m = (gD l (Int.toNat (0 : Int))).hi /\ l.length = l.length /\ (∀ (i : Nat), i < l.length -> (gD l i).lo
 = (gD l i).lo /\ (gD l i).hi = (gD l i).hi) /\ (↑l.length : Int) = (↑l.length : Int) /\ (↑a.k : Int) = (0 : Int)) /\ a.k <= l.length /\ a.m = List.foldl BJ (gD (List.map (λ (x : Span) => x.hi) l) (0 : Nat)) (List.take a.k
 (List.map (λ (x : Span) => x.hi) l))) /\ ∀ (a : NI), a.k <= l.length /\ a.m = List.foldl BJ (gD (List.map (λ (x : Span) => x.hi) l) (0 : Nat)) (List.take a.k (List.map (λ (x : Span) => x.hi) l)) -> bif decide ((↑a.k
 : Int) < (↑l.length : Int)) then ((0 : Int) <= (↑a.k : Int) /\ (↑a.k : Int) < (↑l.length : Int)) /\ ∃ (a_2 : NI), (a_2.m = BJ a.m (gD l a.k).hi /\ l.length = l.length /\ (∀ (i : Nat), i < l.length -> (gD l i).lo = (gD l
 i).lo /\ (gD l i).hi = (gD l i).hi) /\ (↑l.length : Int) = (↑l.length : Int) /\ (↑a_2.k : Int) = IntKind.i64.wrap ((↑a.k : Int) + (1 : Int))) /\ (a_2.k <= l.length /\ a_2.m = List.foldl BJ (gD (List.map (λ (x : Span) =>
 x.hi) l) (0 : Nat)) (List.take a_2.k (List.map (λ (x : Span) => x.hi) l))) /\ l.length - a_2.k < l.length - a.k else gHi l = a.m) := by kernel_rfl
theorem CVK {f : Span -> Int} {l : List Span} (h : 0 < l.length) : gD (l.map f) 0 = f (gD l 0) := CQK f h
theorem DNT : AP Try.prog Jp (C_grL.spec DJY) := MC C_grL DKM [] [] BFM (λ _ => by kernel_rfl) (λ _ => AD CXO AK) (λ (l : List Span) h => by
 obtain ⟨h1, h2⟩ : 0 < l.length /\ l.length < 1073741824 := h
 show DMG l; rw [DOT]; simp only [CC, eq_self, implies_true, forall_const, Int.toNat_zero]
 refine ⟨⟨by omega, by omega⟩, ⟨⟨0, (gD l 0).lo⟩, ⟨rfl, rfl⟩, Nat.zero_le _, by rw [CVK h1]; rfl⟩, λ s ⟨s1, s2⟩ => ⟨λ hlt => ⟨by omega, ⟨s.k + 1, BJ s.m (gD l s.k).lo⟩, ⟨rfl, (GC (by omega)).symm⟩, ⟨by show s.k + 1 <= _; omega, ?_⟩, by show l.length - (s.k + 1) < _; omega⟩, λ hge => ?_⟩⟩
 ·show BJ s.m (gD l s.k).lo = _
  rw [Ep (by simp; omega), List.foldl_append, <- s2, CQK _ (by omega)]; rfl
 ·rw [s2, List.take_of_length_le (by simp; omega), CVK h1]; rfl) (λ _ => MO rfl rfl) _
theorem DOG : AP Try.prog Jp (C_grH.spec DMI) := MC C_grH DJT [] [] BFM (λ _ => by kernel_rfl) (λ _ => AD DFH AK) (λ (l : List Span) h => by
 obtain ⟨h1, h2⟩ : 0 < l.length /\ l.length < 1073741824 := h
 show DKF l; rw [DOU]; simp only [CC, eq_self, implies_true, forall_const, Int.toNat_zero]
 refine ⟨⟨by omega, by omega⟩, ⟨⟨0, (gD l 0).hi⟩, ⟨rfl, rfl⟩, Nat.zero_le _, by rw [CVK h1]; rfl⟩, λ s ⟨s1, s2⟩ => ⟨λ hlt => ⟨by omega, ⟨s.k + 1, BJ s.m (gD l s.k).hi⟩, ⟨rfl, (GC (by omega)).symm⟩, ⟨by show s.k + 1 <= _; omega, ?_⟩, by show l.length - (s.k + 1) < _; omega⟩, λ hge => ?_⟩⟩
 ·show BJ s.m (gD l s.k).hi = _
  rw [Ep (by simp; omega), List.foldl_append, <- s2, CQK _ (by omega)]; rfl
 ·rw [s2, List.take_of_length_le (by simp; omega), CVK h1]; rfl) (λ _ => MO rfl rfl) _
end Go.Bal
