/- Package chart: numbers, spans, notes. -/
import Derived.Test.YtdbjalgfomknhaaChA0
set_option linter.unusedVariables false
set_option linter.unusedSimpArgs false
namespace Go.Bal
open Go Go.Sym Go.Proofs
def wr (n : Int) : Int := IntKind.i64.wrap n
def HK (a b c : Int) : Bool := decide (b <= a) && decide (a <= c)
def IV (s : Span) (a b : Int) : Bool := HK s.lo a b && HK s.hi s.lo b
def CO (n : Nt) (m : Int) : Bool := HK n.mi 0 (wr (m - 1)) && IV n.t 0 10000000 && IV n.s (-3000000) 3000000
def V_in (x : I3) : Prop := BB Try.prog (ann 15 []) F_in (AL F_in) (xI3 x) (AG []) (.bool (HK x.a x.b x.c)) [] [] []
theorem CZQ (x : I3) : (V_in x) = (HK x.a x.b x.c = bif decide (x.a >= x.b) then decide (x.a <= x.c) else false) := by kernel_rfl
def s_in := pD dI3 λ x => .bool (HK x.a x.b x.c)
theorem BKI : AM Try.prog n_in s_in := WW xI3 hI3 λ x _ => UV (A := ann 15 []) (ren := []) (fz := []) CZN (by kernel_rfl) AJ (by
 show V_in x; rw [CZQ]; unfold HK; by_cases h : x.b <= x.a <;> simp [h])
def CTB (x : SII) : Prop := BB Try.prog (ann 20 [(n_in, s_in)]) AIW (AL AIW) (xSII x) (AG []) (.bool (IV x.s x.a x.b)) [] [] []
theorem CWQ (x : SII) : (CTB x) = (IV x.s x.a x.b = bif HK x.s.lo x.a x.b then HK x.s.hi x.s.lo x.b else false) := by kernel_rfl
def CFL := pD dSII λ x => .bool (IV x.s x.a x.b)
theorem CIS : AM Try.prog Ac CFL := WW xSII hSII λ x _ => UV (A := ann 20 [(n_in, s_in)]) (ren := []) (fz := []) CCK (by kernel_rfl) (AC BKI AJ) (by
 show CTB x; rw [CWQ]; unfold IV; cases HK x.s.lo x.a x.b <;> simp)
def CFO (x : NtI) : Prop := BB Try.prog (ann 20 [(n_in, s_in), (Ac, CFL)]) BWE (AL BWE) (xNtI x) (AG []) (.bool (CO x.n x.a)) [] [] []
theorem CKO (x : NtI) : (CFO x) = (CO x.n x.a = bif bif HK x.n.mi 0 (IntKind.i64.wrap (x.a - 1)) then IV x.n.t 0 10000000 else false then IV x.n.s (-3000000) 3000000 else false) := by kernel_rfl
def CFM := pD dNtI λ x => .bool (CO x.n x.a)
theorem CMV : AM Try.prog BRS CFM := WW xNtI hNtI λ x _ => UV (A := ann 20 [(n_in, s_in), (Ac, CFL)]) (ren := []) (fz := []) CHV (by kernel_rfl) (AC BKI (AC CIS AJ)) (by
 show CFO x; rw [CKO]; unfold CO wr; cases HK x.n.mi 0 (IntKind.i64.wrap (x.a - 1)) <;> cases IV x.n.t 0 10000000 <;> simp)
structure SL where
 a : Span
 l : List Span
structure NS where
 k : Nat
 m : Span
 deriving Inhabited
def comM (x : SL) : Span := x.l.foldl fG x.a
def C_com : Ctr := { α := SL, xs := λ x => [.d (CN x.a), .d (AX x.l)], L := λ _ => [], val := λ x => .d (CN (comM x)), keep := λ _ => [], pre := λ x => [decide (x.l.length < 4611686018427387904) = true] }
def CNV : List AVal -> Heap -> Option (SL × List (Nat × Nat) × List Nat)
 | [.d a, y], H => match YC y H with
  | some (l, f) => some (⟨LP a, l⟩, [], f)
  | none => none
 | _, _ => none
def CSB (x : SL) : Ann := { ann 26 [] with loops := λ id => if id = 2 then some [{ α := NS, dflt := default, T := λ s => ⟨[(2, .bptr 201 0), (4, .bptr 202 0), (7, .d (AX x.l)), (8, .int x.l.length), (9, .int s.k)], [(201, .live (.box [.int s.m.lo, .int s.m.hi])), (202, .live (.box [.int 0, .int 0]))]⟩, inv := λ s => s.k <= x.l.length /\ s.m = (x.l.take s.k).foldl fG x.a, meas := λ s => x.l.length - s.k, first := [(201, 1000), (202, 1016)] }] else none }
def CTT (x : SL) : Prop := BB Try.prog (CSB x) AXG (AL AXG) (C_com.xs x) (AG []) (C_com.val x) [] [] []
theorem CVN (x : SL) : (CTT x) = ((∃ (a : NS), (x.l.length = x.l.length /\ (∀ (i : Nat), i < x.l.length -> (gD x.l i).lo = (gD x.l i).lo /\ (gD x.l i).hi = (gD x.l i).hi) /\ (↑x.l.length : Int) = (↑x.l.length : Int) /\
 (↑a.k : Int) = (0 : Int) /\ a.m.lo = x.a.lo /\ a.m.hi = x.a.hi /\ Int.ofNat (0 : Nat) = Int.ofNat (0 : Nat) /\ Int.ofNat (0 : Nat) = Int.ofNat (0 : Nat)) /\ a.k <= x.l.length /\ a.m = List.foldl fG x.a (List.take a.k x.l)) /\ ∀
 (a : NS), a.k <= x.l.length /\ a.m = List.foldl fG x.a (List.take a.k x.l) -> bif decide ((↑a.k : Int) < (↑x.l.length : Int)) then ((0 : Int) <= (↑a.k : Int) /\ (↑a.k : Int) < (↑x.l.length : Int)) /\ ∃ (a_2 : NS), (x.l.length
 = x.l.length /\ (∀ (i : Nat), i < x.l.length -> (gD x.l i).lo = (gD x.l i).lo /\ (gD x.l i).hi = (gD x.l i).hi) /\ (↑x.l.length : Int) = (↑x.l.length : Int) /\ (↑a_2.k : Int) = IntKind.i64.wrap ((↑a.k : Int) + (1 : Int)) /\
 a_2.m.lo = DJ a.m.lo (gD x.l a.k).lo /\ a_2.m.hi = JL a.m.hi (gD x.l a.k).hi /\ Int.ofNat (0 : Nat) = Int.ofNat (0 : Nat) /\ Int.ofNat (0 : Nat) = Int.ofNat (0 : Nat)) /\ (a_2.k <= x.l.length /\ a_2.m = List.foldl fG x.a
 (List.take a_2.k x.l)) /\ x.l.length - a_2.k < x.l.length - a.k else (comM x).lo = a.m.lo /\ (comM x).hi = a.m.hi) := by kernel_rfl
theorem DAN (x : SL) (h : x.l.length < 4611686018427387904) : CTT x := by
 rw [CVN]; try simp only [CC, eq_self, implies_true, forall_const]
 refine ⟨⟨⟨0, x.a⟩, ⟨rfl, rfl, rfl⟩, Nat.zero_le _, rfl⟩, λ s ⟨h1, h2⟩ => ⟨λ hlt => ?_, λ hge => ?_⟩⟩
 ·have hlt : s.k < x.l.length := by omega
  refine ⟨by omega, ⟨s.k + 1, fG s.m (gD x.l s.k)⟩, ⟨(GK (by omega)).symm, rfl, rfl⟩, ⟨by show s.k + 1 <= _; omega, ?_⟩, by show x.l.length - (s.k + 1) < _; omega⟩
  show fG s.m (gD x.l s.k) = _
  rw [Ck hlt, List.foldl_append, <- h2]; rfl
 ·rw [h2, List.take_of_length_le (by omega)]; exact ⟨rfl, rfl⟩
theorem COM : AM Try.prog K6 (C_com.spec CNV) := LM C_com CSB [] [] CGP (λ _ => by kernel_rfl) (λ _ => AJ) (λ x h => DAN x (of_decide_eq_true h)) (λ _ => OA rfl rfl) _
end Go.Bal
