/- Package chart: data, and how they read. -/
import Derived.Test.YtdbjalgfomknhaaChaN
import Derived.Test.YtdbjalgfomknhaaChT1
set_option linter.unusedVariables false
set_option linter.unusedSimpArgs false
namespace Go.Bal
open Go Go.Sym Go.Proofs
structure Mk where
 pl : Int
 ht : Int
 deriving Inhabited, DecidableEq
structure Nt where
 mi : Int
 t : Span
 s : Span
 deriving Inhabited, DecidableEq
structure Pr where
 a : Int
 b : Int
 deriving Inhabited, DecidableEq
structure Cht where
 p : Span
 base : Int
 scale : Int
 off : Int
 ms : List Mk
 ns : List Nt
 deriving Inhabited, DecidableEq
structure Tru where
 t : List Int
 s : List Int
 z : List Int
 deriving Inhabited, DecidableEq
def eMk (m : Mk) : DVal := .agg [FF m.pl, FF m.ht]
def eNt (n : Nt) : DVal := .agg [FF n.mi, FF n.t.lo, FF n.t.hi, FF n.s.lo, FF n.s.hi]
def ePr (p : Pr) : DVal := .agg [FF p.a, FF p.b]
def eMks (l : List Mk) : DVal := lst 2 l.length λ i => eMk (gD l i)
def yY (l : List Nt) : DVal := lst 5 l.length λ i => eNt (gD l i)
def ZA (l : List Pr) : DVal := lst 2 l.length λ i => ePr (gD l i)
def AV (l : List Span) : DVal := lst 2 l.length λ i => BT (gD l i)
def YV (c : Cht) : DVal := .agg [FF c.p.lo, FF c.p.hi, FF c.base, FF c.scale, FF c.off, eMks c.ms, yY c.ns]
def eTru (t : Tru) : DVal := .agg [CO t.t, CO t.s, CO t.z]
def dMk : DVal -> Mk
 | .agg [a, b] => ⟨BU a, BU b⟩
 | _ => default
def dNt : DVal -> Nt
 | .agg [a, b, c, d, e] => ⟨BU a, ⟨BU b, BU c⟩, ⟨BU d, BU e⟩⟩
 | _ => default
def dPr : DVal -> Pr
 | .agg [a, b] => ⟨BU a, BU b⟩
 | _ => default
theorem CZB (g : Mk) : dMk (eMk g) = g := rfl
theorem CXS (g : Nt) : dNt (eNt g) = g := rfl
theorem CYI (g : Pr) : dPr (ePr g) = g := rfl
def dMks (a : AVal) (H : Heap) : Option (List Mk × List Nat) := match G9 a H with
 | some (n, g, f) => some (AE n λ i => dMk (g i), f)
 | none => none
def dNts (a : AVal) (H : Heap) : Option (List Nt × List Nat) := match G9 a H with
 | some (n, g, f) => some (AE n λ i => dNt (g i), f)
 | none => none
def dPrs (a : AVal) (H : Heap) : Option (List Pr × List Nat) := match G9 a H with
 | some (n, g, f) => some (AE n λ i => dPr (g i), f)
 | none => none
def YT (a : AVal) (H : Heap) : Option (List Span × List Nat) := match G9 a H with
 | some (n, g, f) => some (AE n λ i => KY (g i), f)
 | none => none
def BVO : AVal -> Heap -> Option (Cht × List Nat)
 | .d (.agg [a, b, c, d, e, .list _ n f _, .list _ m g _]), _ => some (⟨⟨BU a, BU b⟩, BU c, BU d, BU e, AE n λ i => dMk (f i), AE m λ i => dNt (g i)⟩, [])
 | .agg [.d a, .d b, .d c, .d d, .d e, x, y], H => match dMks x H, dNts y H with
  | some (l, f1), some (m, f2) => some (⟨⟨BU a, BU b⟩, BU c, BU d, BU e, l, m⟩, f1 ++ f2)
  | _, _ => none
 | _, _ => none
def pD {α : Type} (dec : List AVal -> Option α) (val : α -> AVal) (pre : α -> List Prop := λ _ => []) : Sym.Spec := Nl λ xs => match dec xs with
 | some a => some (val a, pre a)
 | none => none
theorem XE {α : Type} {g : FuncId} {dec : List AVal -> Option α} {val : α -> AVal} {pre : α -> List Prop} (enc : α -> List AVal) (hde : ∀ xs a, dec xs = some a -> xs = enc a) (h : ∀ a, AX (pre a) -> FnT Try.prog g (enc a) (AF []) (val a) []) : AL Try.prog g (pD dec val pre) := Xs λ xs v p hf hp => by
 split at hf
 ·rename_i a ha
  cases hf
  rw [hde xs a ha]; exact h a hp
 ·cases hf
def dI1 : List AVal -> Option Int
 | [.d (.v (.int .i64 a))] => some a
 | _ => none
def xI1 (a : Int) : List AVal := [.int a]
theorem hI1 (xs : List AVal) (a : Int) (h : dI1 xs = some a) : xs = xI1 a := by
 unfold dI1 at h; split at h <;> cases h; rfl
structure I2 where
 a : Int
 b : Int
structure I3 where
 a : Int
 b : Int
 c : Int
def dI2 : List AVal -> Option I2
 | [.d (.v (.int .i64 a)), .d (.v (.int .i64 b))] => some ⟨a, b⟩
 | _ => none
def xI2 (x : I2) : List AVal := [.int x.a, .int x.b]
theorem hI2 (xs : List AVal) (a : I2) (h : dI2 xs = some a) : xs = xI2 a := by
 unfold dI2 at h; split at h <;> cases h; rfl
def dI3 : List AVal -> Option I3
 | [.d (.v (.int .i64 a)), .d (.v (.int .i64 b)), .d (.v (.int .i64 c))] => some ⟨a, b, c⟩
 | _ => none
def xI3 (x : I3) : List AVal := [.int x.a, .int x.b, .int x.c]
theorem hI3 (xs : List AVal) (a : I3) (h : dI3 xs = some a) : xs = xI3 a := by
 unfold dI3 at h; split at h <;> cases h; rfl
def dS1 : List AVal -> Option Span
 | [.d (.agg [.v (.int .i64 a), .v (.int .i64 b)])] => some ⟨a, b⟩
 | _ => none
def xS1 (g : Span) : List AVal := [.d (BT g)]
theorem hS1 (xs : List AVal) (a : Span) (h : dS1 xs = some a) : xs = xS1 a := by
 unfold dS1 at h; split at h <;> cases h; rfl
structure SII where
 s : Span
 a : Int
 b : Int
def dSII : List AVal -> Option SII
 | [.d (.agg [.v (.int .i64 p), .v (.int .i64 q)]), .d (.v (.int .i64 a)), .d (.v (.int .i64 b))] => some ⟨⟨p, q⟩, a, b⟩
 | _ => none
def xSII (x : SII) : List AVal := [.d (BT x.s), .int x.a, .int x.b]
theorem hSII (xs : List AVal) (a : SII) (h : dSII xs = some a) : xs = xSII a := by
 unfold dSII at h; split at h <;> cases h; rfl
structure NtI where
 n : Nt
 a : Int
def dNtI : List AVal -> Option NtI
 | [.d (.agg [.v (.int .i64 a), .v (.int .i64 b), .v (.int .i64 c), .v (.int .i64 d), .v (.int .i64 e)]), .d (.v (.int .i64 s))] => some ⟨⟨a, ⟨b, c⟩, ⟨d, e⟩⟩, s⟩
 | _ => none
def xNtI (x : NtI) : List AVal := [.d (eNt x.n), .int x.a]
theorem hNtI (xs : List AVal) (a : NtI) (h : dNtI xs = some a) : xs = xNtI a := by
 unfold dNtI at h; split at h <;> cases h; rfl
def orS (s t : Sym.Spec) : Sym.Spec := λ xs H r => match s xs H r with
 | some x => some x
 | none => t xs H r
theorem CLP {g : FuncId} {s t : Sym.Spec} (h1 : AL Try.prog g s) (h2 : AL Try.prog g t) : AL Try.prog g (orS s t) := λ xs H r x hx hp => by
 unfold orS at hx
 split at hx
 ·rename_i y hy; cases hx; exact h1 xs H r _ hy hp
 ·exact h2 xs H r x hx hp
theorem ZF {α : Type} [Inhabited α] {l : List α} {k : Nat} (h : k < l.length) : l.take (k + 1) = l.take k ++ [gD l k] := by
 rw [List.take_add_one, List.getElem?_eq_getElem h]; simp [gD, List.getD_eq_getElem?_getD, h]
theorem mulb {a b A B : Int} (h1 : 0 <= a) (h2 : a <= A) (h3 : 0 <= b) (h4 : b <= B) : 0 <= a * b /\ a * b <= A * B :=
 ⟨Int.mul_nonneg h1 h3, Int.mul_le_mul h2 h4 h3 (by omega)⟩
structure NI where
 k : Nat
 m : Int
 deriving Inhabited
theorem CC : ((∀ {b : Bool} {p q : Prop}, (bif b then p else q) = ((b = true -> p) /\ (b = false -> q))) /\ (∀ (p : Prop), (p /\ p) = p) /\ (∀ (p : Prop), (True /\ p) = p) /\ (∀ (p : Prop), (p /\ True) = p) /\ (∀ (p : Prop), (True -> p) = p) /\ (∀ {p : Prop} [inst : Decidable p], (decide p = true) = p) /\ (∀ {p : Prop} {x : Decidable p}, decide p = false ↔ ¬p)) /\ (∀ (n : Nat), (n : Int).toNat = n) /\ (∀ (s : Span), KY (BT s) = s) /\ (∀ (n : Int), BU (FF n) = n) /\ (∀ (g : Mk), dMk (eMk g) = g) /\ (∀ (g : Nt), dNt (eNt g) = g) /\ (∀ (g : Pr), dPr (ePr g) = g) /\ (∀ (n : Nat), 0 + n = n) /\ (∀ (a : Int), 0 - a = -a) /\ (∀ {x y : Nat}, x.le y = (x <= y)) /\ (∀ (n : Nat), n.succ = n + 1) /\ (∀ {n m : Nat}, n + 1 <= m ↔ n < m) /\ (∀ (b : Bool), ((!b) = true) = (b = false)) /\ (∀ (b : Bool), ((!b) = false) = (b = true)) /\ (∀ {α : Type} (n : Nat) (f : Nat -> α), (AE n f).length = n) /\ (∀ (a b : Int), KY (.agg [FF a, FF b]) = ⟨a, b⟩) /\ (∀ {α : Type} [Inhabited α] (l : List α), (AE l.length λ i => gD l i) = l) := ⟨⟨CKM, and_self, true_and, and_true, true_implies, decide_eq_true_eq, decide_eq_false_iff_not⟩, Int.toNat_natCast, dSpan_eSpan, dInt_eInt, CZB, CXS, CYI, Nat.zero_add, Int.zero_sub, Nat.le_eq, Nat.succ_eq_add_one, Nat.add_one_le_iff, Bool.not_eq_true', Bool.not_eq_false', rng_length, CMF, HC⟩
end Go.Bal
namespace Go.Bal.DL
open Go.Sym Go
theorem g1 (s : Mk) : dMk (eMk s) = s := rfl
theorem g2 (s : Nt) : dNt (eNt s) = s := rfl
theorem g3 (s : Pr) : dPr (ePr s) = s := rfl
theorem h1 (a b : Int) : dMk (.agg [FF a, FF b]) = Mk.mk a b := rfl
theorem h2 (a b c d e : Int) : dNt (.agg [FF a, FF b, FF c, FF d, FF e]) = Nt.mk a (Span.mk b c) (Span.mk d e) := rfl
theorem h3 (a b : Int) : dPr (.agg [FF a, FF b]) = Pr.mk a b := rfl
theorem k1 (s : Mk) : Mk.mk s.pl s.ht = s := rfl
theorem k2 (s : Nt) : Nt.mk s.mi (Span.mk s.t.lo s.t.hi) (Span.mk s.s.lo s.s.hi) = s := rfl
theorem k3 (s : Pr) : Pr.mk s.a s.b = s := rfl
end Go.Bal.DL

namespace Go.Bal
open Go Go.Sym Go.Proofs
def wr (n : Int) : Int := IntKind.i64.wrap n
def GT (a b c : Int) : Bool := decide (b <= a) && decide (a <= c)
def IH (s : Span) (a b : Int) : Bool := GT s.lo a b && GT s.hi s.lo b
def BW (n : Nt) (m : Int) : Bool := GT n.mi 0 (wr (m - 1)) && IH n.t 0 10000000 && IH n.s (-3000000) 3000000
def V_in (x : I3) : Prop := AW Try.prog (ann 15 []) F_in (AK F_in) (xI3 x) (AF []) (.bool (GT x.a x.b x.c)) [] [] []
theorem CYV (x : I3) : (V_in x) = (GT x.a x.b x.c = bif decide (x.a >= x.b) then decide (x.a <= x.c) else false) := by kernel_rfl
def s_in := pD dI3 λ x => .bool (GT x.a x.b x.c)
theorem BJI : AL Try.prog n_in s_in := XE xI3 hI3 λ x _ => QX (A := ann 15 []) (ren := []) (fz := []) CXT (by kernel_rfl) AI (by
 show V_in x; rw [CYV]; unfold GT; by_cases h : x.b <= x.a <;> simp [h])
def CRF (x : SII) : Prop := AW Try.prog (ann 20 [(n_in, s_in)]) X3 (AK X3) (xSII x) (AF []) (.bool (IH x.s x.a x.b)) [] [] []
theorem CUJ (x : SII) : (CRF x) = (IH x.s x.a x.b = bif GT x.s.lo x.a x.b then GT x.s.hi x.s.lo x.b else false) := by kernel_rfl
def CCX := pD dSII λ x => .bool (IH x.s x.a x.b)
theorem CGI : AL Try.prog Bq CCX := XE xSII hSII λ x _ => QX (A := ann 20 [(n_in, s_in)]) (ren := []) (fz := []) BZK (by kernel_rfl) (AD BJI AI) (by
 show CRF x; rw [CUJ]; unfold IH; cases GT x.s.lo x.a x.b <;> simp)
def CCR (x : NtI) : Prop := AW Try.prog (ann 20 [(n_in, s_in), (Bq, CCX)]) BRT (AK BRT) (xNtI x) (AF []) (.bool (BW x.n x.a)) [] [] []
theorem CJX (x : NtI) : (CCR x) = (BW x.n x.a = bif bif GT x.n.mi 0 (IntKind.i64.wrap (x.a - 1)) then IH x.n.t 0 10000000 else false then IH x.n.s (-3000000) 3000000 else false) := by kernel_rfl
def CDH := pD dNtI λ x => .bool (BW x.n x.a)
theorem CHA : AL Try.prog BSV CDH := XE xNtI hNtI λ x _ => QX (A := ann 20 [(n_in, s_in), (Bq, CCX)]) (ren := []) (fz := []) CJM (by kernel_rfl) (AD BJI (AD CGI AI)) (by
 show CCR x; rw [CJX]; unfold BW wr; cases GT x.n.mi 0 (IntKind.i64.wrap (x.a - 1)) <;> cases IH x.n.t 0 10000000 <;> simp)
structure SL where
 a : Span
 l : List Span
structure NS where
 k : Nat
 m : Span
 deriving Inhabited
def comM (x : SL) : Span := x.l.foldl Ka x.a
def C_com : Ctr := { α := SL, xs := λ x => [.d (BT x.a), .d (AV x.l)], L := λ _ => [], val := λ x => .d (BT (comM x)), keep := λ _ => [], pre := λ x => [decide (x.l.length < 4611686018427387904) = true] }
def CFY : List AVal -> Heap -> Option (SL × List (Nat × Nat) × List Nat)
 | [.d a, y], H => match YT y H with
  | some (l, f) => some (⟨KY a, l⟩, [], f)
  | none => none
 | _, _ => none
def CSI (x : SL) : Ann := { ann 26 [] with loops := λ id => if id = 2 then some [{ α := NS, dflt := default, T := λ s => ⟨[(2, .bptr 201 0), (4, .bptr 202 0), (7, .d (AV x.l)), (8, .int x.l.length), (9, .int s.k)], [(201, .live (.box [.int s.m.lo, .int s.m.hi])), (202, .live (.box [.int 0, .int 0]))]⟩, inv := λ s => s.k <= x.l.length /\ s.m = (x.l.take s.k).foldl Ka x.a, meas := λ s => x.l.length - s.k, first := [(201, 1000), (202, 1016)] }] else none }
def CRN (x : SL) : Prop := AW Try.prog (CSI x) BDR (AK BDR) (C_com.xs x) (AF []) (C_com.val x) [] [] []
theorem CUS (x : SL) : (CRN x) = ((∃ (a : NS), (x.l.length = x.l.length /\ (∀ (i : Nat), i < x.l.length -> (gD x.l i).lo = (gD x.l i).lo /\ (gD x.l i).hi = (gD x.l i).hi) /\ (↑x.l.length : Int) = (↑x.l.length : Int) /\
 (↑a.k : Int) = (0 : Int) /\ a.m.lo = x.a.lo /\ a.m.hi = x.a.hi /\ Int.ofNat (0 : Nat) = Int.ofNat (0 : Nat) /\ Int.ofNat (0 : Nat) = Int.ofNat (0 : Nat)) /\ a.k <= x.l.length /\ a.m = List.foldl Ka x.a (List.take a.k x.l)) /\ ∀
 (a : NS), a.k <= x.l.length /\ a.m = List.foldl Ka x.a (List.take a.k x.l) -> bif decide ((↑a.k : Int) < (↑x.l.length : Int)) then ((0 : Int) <= (↑a.k : Int) /\ (↑a.k : Int) < (↑x.l.length : Int)) /\ ∃ (a_2 : NS), (x.l.length
 = x.l.length /\ (∀ (i : Nat), i < x.l.length -> (gD x.l i).lo = (gD x.l i).lo /\ (gD x.l i).hi = (gD x.l i).hi) /\ (↑x.l.length : Int) = (↑x.l.length : Int) /\ (↑a_2.k : Int) = IntKind.i64.wrap ((↑a.k : Int) + (1 : Int)) /\
 a_2.m.lo = AY a.m.lo (gD x.l a.k).lo /\ a_2.m.hi = DX a.m.hi (gD x.l a.k).hi /\ Int.ofNat (0 : Nat) = Int.ofNat (0 : Nat) /\ Int.ofNat (0 : Nat) = Int.ofNat (0 : Nat)) /\ (a_2.k <= x.l.length /\ a_2.m = List.foldl Ka x.a
 (List.take a_2.k x.l)) /\ x.l.length - a_2.k < x.l.length - a.k else (comM x).lo = a.m.lo /\ (comM x).hi = a.m.hi) := by kernel_rfl
theorem CWI (x : SL) (h : x.l.length < 4611686018427387904) : CRN x := by
 rw [CUS]; try simp only [CC, eq_self, implies_true, forall_const]
 refine ⟨⟨⟨0, x.a⟩, ⟨rfl, rfl, rfl⟩, Nat.zero_le _, rfl⟩, λ s ⟨h1, h2⟩ => ⟨λ hlt => ?_, λ hge => ?_⟩⟩
 ·have hlt : s.k < x.l.length := by omega
  refine ⟨by omega, ⟨s.k + 1, Ka s.m (gD x.l s.k)⟩, ⟨(FE (by omega)).symm, rfl, rfl⟩, ⟨by show s.k + 1 <= _; omega, ?_⟩, by show x.l.length - (s.k + 1) < _; omega⟩
  show Ka s.m (gD x.l s.k) = _
  rw [ZF hlt, List.foldl_append, <- h2]; rfl
 ·rw [h2, List.take_of_length_le (by omega)]; exact ⟨rfl, rfl⟩
theorem CLJ : AL Try.prog D0 (C_com.spec CFY) := KV C_com CSI [] [] CDX (λ _ => by kernel_rfl) (λ _ => AI) (λ x h => CWI x (of_decide_eq_true h)) (λ _ => MD rfl rfl) _
end Go.Bal
