/- Package chart: numbers, spans, notes. -/
import Derived.Test.YtdbjalgfomknhaaChA0
set_option linter.unusedVariables false
set_option linter.unusedSimpArgs false
namespace Go.Bal
open Go Go.Sym Go.Proofs
def wr (n : Int) : Int := IntKind.i64.wrap n
def IE (a b c : Int) : Bool := decide (b <= a) && decide (a <= c)
def JV (s : Span) (a b : Int) : Bool := IE s.lo a b && IE s.hi s.lo b
def CG (n : Nt) (m : Int) : Bool := IE n.mi 0 (wr (m - 1)) && JV n.t 0 10000000 && JV n.s (-3000000) 3000000
def V_in (x : I3) : Prop := AZ Try.prog (ann 15 []) F_in (AN F_in) (xI3 x) (AF []) (.bool (IE x.a x.b x.c)) [] [] []
theorem DQM (x : I3) : (V_in x) = (IE x.a x.b x.c = bif decide (x.a >= x.b) then decide (x.a <= x.c) else false) := by kernel_rfl
def s_in := pD dI3 λ x => .bool (IE x.a x.b x.c)
theorem CCS : AP Try.prog n_in s_in := Ba xI3 hI3 λ x _ => TV (A := ann 15 []) (ren := []) (fz := []) DSG (by kernel_rfl) AK (by
 show V_in x; rw [DQM]; unfold IE; by_cases h : x.b <= x.a <;> simp [h])
def DLQ (x : SII) : Prop := AZ Try.prog (ann 20 [(n_in, s_in)]) ALE (AN ALE) (xSII x) (AF []) (.bool (JV x.s x.a x.b)) [] [] []
theorem DNS (x : SII) : (DLQ x) = (JV x.s x.a x.b = bif IE x.s.lo x.a x.b then IE x.s.hi x.s.lo x.b else false) := by kernel_rfl
def CUZ := pD dSII λ x => .bool (JV x.s x.a x.b)
theorem DBV : AP Try.prog Bk CUZ := Ba xSII hSII λ x _ => TV (A := ann 20 [(n_in, s_in)]) (ren := []) (fz := []) CSE (by kernel_rfl) (AD CCS AK) (by
 show DLQ x; rw [DNS]; unfold JV; cases IE x.s.lo x.a x.b <;> simp)
def CVY (x : NtI) : Prop := AZ Try.prog (ann 20 [(n_in, s_in), (Bk, CUZ)]) CMD (AN CMD) (xNtI x) (AF []) (.bool (CG x.n x.a)) [] [] []
theorem DBO (x : NtI) : (CVY x) = (CG x.n x.a = bif bif IE x.n.mi 0 (IntKind.i64.wrap (x.a - 1)) then JV x.n.t 0 10000000 else false then JV x.n.s (-3000000) 3000000 else false) := by kernel_rfl
def CUH := pD dNtI λ x => .bool (CG x.n x.a)
theorem CYC : AP Try.prog CDR CUH := Ba xNtI hNtI λ x _ => TV (A := ann 20 [(n_in, s_in), (Bk, CUZ)]) (ren := []) (fz := []) DEY (by kernel_rfl) (AD CCS (AD DBV AK)) (by
 show CVY x; rw [DBO]; unfold CG wr; cases IE x.n.mi 0 (IntKind.i64.wrap (x.a - 1)) <;> cases JV x.n.t 0 10000000 <;> simp)
structure SL where
 a : Span
 l : List Span
structure NS where
 k : Nat
 m : Span
 deriving Inhabited
def comM (x : SL) : Span := x.l.foldl oI x.a
def C_com : Ctr := { α := SL, xs := λ x => [.d (CE x.a), .d (AV x.l)], L := λ _ => [], val := λ x => .d (CE (comM x)), keep := λ _ => [], pre := λ x => [decide (x.l.length < 4611686018427387904) = true] }
def DFI : List AVal -> Heap -> Option (SL × List (Nat × Nat) × List Nat)
 | [.d a, y], H => match Bg y H with
  | some (l, f) => some (⟨MR a, l⟩, [], f)
  | none => none
 | _, _ => none
def DLC (x : SL) : Ann := { ann 26 [] with loops := λ id => if id = 2 then some [{ α := NS, dflt := default, T := λ s => ⟨[(2, .bptr 201 0), (4, .bptr 202 0), (7, .d (AV x.l)), (8, .int x.l.length), (9, .int s.k)], [(201, .live (.box [.int s.m.lo, .int s.m.hi])), (202, .live (.box [.int 0, .int 0]))]⟩, inv := λ s => s.k <= x.l.length /\ s.m = (x.l.take s.k).foldl oI x.a, meas := λ s => x.l.length - s.k, first := [(201, 1000), (202, 1016)] }] else none }
def DLG (x : SL) : Prop := AZ Try.prog (DLC x) BQF (AN BQF) (C_com.xs x) (AF []) (C_com.val x) [] [] []
theorem DPF (x : SL) : (DLG x) = ((∃ (a : NS), (x.l.length = x.l.length /\ (∀ (i : Nat), i < x.l.length -> (gD x.l i).lo = (gD x.l i).lo /\ (gD x.l i).hi = (gD x.l i).hi) /\ (↑x.l.length : Int) = (↑x.l.length : Int) /\
 (↑a.k : Int) = (0 : Int) /\ a.m.lo = x.a.lo /\ a.m.hi = x.a.hi /\ Int.ofNat (0 : Nat) = Int.ofNat (0 : Nat) /\ Int.ofNat (0 : Nat) = Int.ofNat (0 : Nat)) /\ a.k <= x.l.length /\ a.m = List.foldl oI x.a (List.take a.k x.l)) /\ ∀
 (a : NS), a.k <= x.l.length /\ a.m = List.foldl oI x.a (List.take a.k x.l) -> bif decide ((↑a.k : Int) < (↑x.l.length : Int)) then ((0 : Int) <= (↑a.k : Int) /\ (↑a.k : Int) < (↑x.l.length : Int)) /\ ∃ (a_2 : NS), (x.l.length
 = x.l.length /\ (∀ (i : Nat), i < x.l.length -> (gD x.l i).lo = (gD x.l i).lo /\ (gD x.l i).hi = (gD x.l i).hi) /\ (↑x.l.length : Int) = (↑x.l.length : Int) /\ (↑a_2.k : Int) = IntKind.i64.wrap ((↑a.k : Int) + (1 : Int)) /\
 a_2.m.lo = BJ a.m.lo (gD x.l a.k).lo /\ a_2.m.hi = IC a.m.hi (gD x.l a.k).hi /\ Int.ofNat (0 : Nat) = Int.ofNat (0 : Nat) /\ Int.ofNat (0 : Nat) = Int.ofNat (0 : Nat)) /\ (a_2.k <= x.l.length /\ a_2.m = List.foldl oI x.a
 (List.take a_2.k x.l)) /\ x.l.length - a_2.k < x.l.length - a.k else (comM x).lo = a.m.lo /\ (comM x).hi = a.m.hi) := by kernel_rfl
theorem DSP (x : SL) (h : x.l.length < 4611686018427387904) : DLG x := by
 rw [DPF]; try simp only [CC, eq_self, implies_true, forall_const]
 refine ⟨⟨⟨0, x.a⟩, ⟨rfl, rfl, rfl⟩, Nat.zero_le _, rfl⟩, λ s ⟨h1, h2⟩ => ⟨λ hlt => ?_, λ hge => ?_⟩⟩
 ·have hlt : s.k < x.l.length := by omega
  refine ⟨by omega, ⟨s.k + 1, oI s.m (gD x.l s.k)⟩, ⟨(GC (by omega)).symm, rfl, rfl⟩, ⟨by show s.k + 1 <= _; omega, ?_⟩, by show x.l.length - (s.k + 1) < _; omega⟩
  show oI s.m (gD x.l s.k) = _
  rw [Ep hlt, List.foldl_append, <- h2]; rfl
 ·rw [h2, List.take_of_length_le (by omega)]; exact ⟨rfl, rfl⟩
theorem DCY : AP Try.prog ABN (C_com.spec DFI) := MC C_com DLC [] [] CXG (λ _ => by kernel_rfl) (λ _ => AK) (λ x h => DSP x (of_decide_eq_true h)) (λ _ => MO rfl rfl) _
end Go.Bal
