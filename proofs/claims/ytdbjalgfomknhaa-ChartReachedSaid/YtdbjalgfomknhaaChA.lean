/- Package chart: numbers, spans, notes. -/
import Derived.Test.YtdbjalgfomknhaaChA0
set_option linter.unusedVariables false
set_option linter.unusedSimpArgs false
namespace Go.Bal
open Go Go.Sym Go.Proofs
def wr (n : Int) : Int := IntKind.i64.wrap n
def DT (a b c : Int) : Bool := decide (b <= a) && decide (a <= c)
def JH (s : Span) (a b : Int) : Bool := DT s.lo a b && DT s.hi s.lo b
def CF (n : Nt) (m : Int) : Bool := DT n.mi 0 (wr (m - 1)) && JH n.t 0 10000000 && JH n.s (-3000000) 3000000
def V_in (x : I3) : Prop := BA Try.prog (ann 15 []) F_in (AL F_in) (xI3 x) (AG []) (.bool (DT x.a x.b x.c)) [] [] []
theorem DSK (x : I3) : (V_in x) = (DT x.a x.b x.c = bif decide (x.a >= x.b) then decide (x.a <= x.c) else false) := by kernel_rfl
def s_in := pD dI3 λ x => .bool (DT x.a x.b x.c)
theorem rV : AN Try.prog sZ s_in := XL xI3 hI3 λ x _ => PJ (A := ann 15 []) (ren := []) (fz := []) DUO (by kernel_rfl) AI (by
 show V_in x; rw [DSK]; unfold DT; by_cases h : x.b <= x.a <;> simp [h])
def DOK (x : SII) : Prop := BA Try.prog (ann 20 [(sZ, s_in)]) ARR (AL ARR) (xSII x) (AG []) (.bool (JH x.s x.a x.b)) [] [] []
theorem DPN (x : SII) : (DOK x) = (JH x.s x.a x.b = bif DT x.s.lo x.a x.b then DT x.s.hi x.s.lo x.b else false) := by kernel_rfl
def CZJ := pD dSII λ x => .bool (JH x.s x.a x.b)
theorem DEM : AN Try.prog In CZJ := XL xSII hSII λ x _ => PJ (A := ann 20 [(sZ, s_in)]) (ren := []) (fz := []) CUF (by kernel_rfl) (AD rV AI) (by
 show DOK x; rw [DPN]; unfold JH; cases DT x.s.lo x.a x.b <;> simp)
def CYP (x : NtI) : Prop := BA Try.prog (ann 20 [(sZ, s_in), (In, CZJ)]) COC (AL COC) (xNtI x) (AG []) (.bool (CF x.n x.a)) [] [] []
theorem DBM (x : NtI) : (CYP x) = (CF x.n x.a = bif bif DT x.n.mi 0 (IntKind.i64.wrap (x.a - 1)) then JH x.n.t 0 10000000 else false then JH x.n.s (-3000000) 3000000 else false) := by kernel_rfl
def CZF := pD dNtI λ x => .bool (CF x.n x.a)
theorem DHX : AN Try.prog CNL CZF := XL xNtI hNtI λ x _ => PJ (A := ann 20 [(sZ, s_in), (In, CZJ)]) (ren := []) (fz := []) DFR (by kernel_rfl) (AD rV (AD DEM AI)) (by
 show CYP x; rw [DBM]; unfold CF wr; cases DT x.n.mi 0 (IntKind.i64.wrap (x.a - 1)) <;> cases JH x.n.t 0 10000000 <;> simp)
structure SL where
 a : Span
 l : List Span
structure NS where
 k : Nat
 m : Span
 deriving Inhabited
def comM (x : SL) : Span := x.l.foldl Ql x.a
def C_com : Ctr := { α := SL, xs := λ x => [.d (CH x.a), .d (AT x.l)], L := λ _ => [], val := λ x => .d (CH (comM x)), keep := λ _ => [], pre := λ x => [decide (x.l.length < 4611686018427387904) = true] }
def CRK : List AVal -> Heap -> Option (SL × List (Nat × Nat) × List Nat)
 | [.d a, y], H => match Db y H with
  | some (l, f) => some (⟨RS a, l⟩, [], f)
  | none => none
 | _, _ => none
def DNG (x : SL) : Ann := { ann 26 [] with loops := λ id => if id = 2 then some [{ α := NS, dflt := default, T := λ s => ⟨[(2, .bptr 201 0), (4, .bptr 202 0), (7, .d (AT x.l)), (8, .int x.l.length), (9, .int s.k)], [(201, .live (.box [.int s.m.lo, .int s.m.hi])), (202, .live (.box [.int 0, .int 0]))]⟩, inv := λ s => s.k <= x.l.length /\ s.m = (x.l.take s.k).foldl Ql x.a, meas := λ s => x.l.length - s.k, first := [(201, 1000), (202, 1016)] }] else none }
def DNE (x : SL) : Prop := BA Try.prog (DNG x) BSL (AL BSL) (C_com.xs x) (AG []) (C_com.val x) [] [] []
theorem DRE (x : SL) : (DNE x) = ((∃ (a : NS), (x.l.length = x.l.length /\ (∀ (i : Nat), i < x.l.length -> (gD x.l i).lo = (gD x.l i).lo /\ (gD x.l i).hi = (gD x.l i).hi) /\ (↑x.l.length : Int) = (↑x.l.length : Int) /\
 (↑a.k : Int) = (0 : Int) /\ a.m.lo = x.a.lo /\ a.m.hi = x.a.hi /\ Int.ofNat (0 : Nat) = Int.ofNat (0 : Nat) /\ Int.ofNat (0 : Nat) = Int.ofNat (0 : Nat)) /\ a.k <= x.l.length /\ a.m = List.foldl Ql x.a (List.take a.k x.l)) /\ ∀
 (a : NS), a.k <= x.l.length /\ a.m = List.foldl Ql x.a (List.take a.k x.l) -> bif decide ((↑a.k : Int) < (↑x.l.length : Int)) then ((0 : Int) <= (↑a.k : Int) /\ (↑a.k : Int) < (↑x.l.length : Int)) /\ ∃ (a_2 : NS), (x.l.length
 = x.l.length /\ (∀ (i : Nat), i < x.l.length -> (gD x.l i).lo = (gD x.l i).lo /\ (gD x.l i).hi = (gD x.l i).hi) /\ (↑x.l.length : Int) = (↑x.l.length : Int) /\ (↑a_2.k : Int) = IntKind.i64.wrap ((↑a.k : Int) + (1 : Int)) /\
 a_2.m.lo = DD a.m.lo (gD x.l a.k).lo /\ a_2.m.hi = RN a.m.hi (gD x.l a.k).hi /\ Int.ofNat (0 : Nat) = Int.ofNat (0 : Nat) /\ Int.ofNat (0 : Nat) = Int.ofNat (0 : Nat)) /\ (a_2.k <= x.l.length /\ a_2.m = List.foldl Ql x.a
 (List.take a_2.k x.l)) /\ x.l.length - a_2.k < x.l.length - a.k else (comM x).lo = a.m.lo /\ (comM x).hi = a.m.hi) := by kernel_rfl
theorem DVL (x : SL) (h : x.l.length < 4611686018427387904) : DNE x := by
 rw [DRE]; try simp only [AU, eq_self, implies_true, and_self, true_and, and_true, true_implies, forall_const, decide_eq_true_eq, decide_eq_false_iff_not, Int.toNat_natCast, dSpan_eSpan, dInt_eInt, AY, AW, AX, Nat.zero_add, Int.zero_sub, Nat.le_eq, Nat.succ_eq_add_one, Nat.add_one_le_iff, Bool.not_eq_true', Bool.not_eq_false', rng_length, AK, AJ]
 refine ⟨⟨⟨0, x.a⟩, ⟨rfl, rfl, rfl⟩, Nat.zero_le _, rfl⟩, λ s ⟨h1, h2⟩ => ⟨λ hlt => ?_, λ hge => ?_⟩⟩
 ·have hlt : s.k < x.l.length := by omega
  refine ⟨by omega, ⟨s.k + 1, Ql s.m (gD x.l s.k)⟩, ⟨(FM (by omega)).symm, rfl, rfl⟩, ⟨by show s.k + 1 <= _; omega, ?_⟩, by show x.l.length - (s.k + 1) < _; omega⟩
  show Ql s.m (gD x.l s.k) = _
  rw [Hf hlt, List.foldl_append, <- h2]; rfl
 ·rw [h2, List.take_of_length_le (by omega)]; exact ⟨rfl, rfl⟩
theorem CGC : AN Try.prog Gx (C_com.spec CRK) := MB C_com DNG [] [] CZV (λ _ => by kernel_rfl) (λ _ => AI) (λ x h => DVL x (of_decide_eq_true h)) (λ _ => OS rfl rfl) _
end Go.Bal
