/- Package chart: numbers, spans, notes. -/
import Derived.Test.YtdbjalgfomknhaaChA0
set_option linter.unusedVariables false
set_option linter.unusedSimpArgs false
namespace Go.Bal
open Go Go.Sym Go.Proofs
def wr (n : Int) : Int := IntKind.i64.wrap n
def HG (a b c : Int) : Bool := decide (b <= a) && decide (a <= c)
def IP (s : Span) (a b : Int) : Bool := HG s.lo a b && HG s.hi s.lo b
def CM (n : Nt) (m : Int) : Bool := HG n.mi 0 (wr (m - 1)) && IP n.t 0 10000000 && IP n.s (-3000000) 3000000
def V_in (x : I3) : Prop := AZ Try.prog (ann 15 []) F_in (AL F_in) (xI3 x) (AG []) (.bool (HG x.a x.b x.c)) [] [] []
theorem DAL (x : I3) : (V_in x) = (HG x.a x.b x.c = bif decide (x.a >= x.b) then decide (x.a <= x.c) else false) := by kernel_rfl
def s_in := pD dI3 λ x => .bool (HG x.a x.b x.c)
theorem BKK : AM Try.prog n_in s_in := XN xI3 hI3 λ x _ => UO (A := ann 15 []) (ren := []) (fz := []) CZC (by kernel_rfl) AJ (by
 show V_in x; rw [DAL]; unfold HG; by_cases h : x.b <= x.a <;> simp [h])
def CTA (x : SII) : Prop := AZ Try.prog (ann 20 [(n_in, s_in)]) AEL (AL AEL) (xSII x) (AG []) (.bool (IP x.s x.a x.b)) [] [] []
theorem CVO (x : SII) : (CTA x) = (IP x.s x.a x.b = bif HG x.s.lo x.a x.b then HG x.s.hi x.s.lo x.b else false) := by kernel_rfl
def CDM := pD dSII λ x => .bool (IP x.s x.a x.b)
theorem CHL : AM Try.prog ZO CDM := XN xSII hSII λ x _ => UO (A := ann 20 [(n_in, s_in)]) (ren := []) (fz := []) CBV (by kernel_rfl) (AC BKK AJ) (by
 show CTA x; rw [CVO]; unfold IP; cases HG x.s.lo x.a x.b <;> simp)
def CFE (x : NtI) : Prop := AZ Try.prog (ann 20 [(n_in, s_in), (ZO, CDM)]) BUI (AL BUI) (xNtI x) (AG []) (.bool (CM x.n x.a)) [] [] []
theorem CNF (x : NtI) : (CFE x) = (CM x.n x.a = bif bif HG x.n.mi 0 (IntKind.i64.wrap (x.a - 1)) then IP x.n.t 0 10000000 else false then IP x.n.s (-3000000) 3000000 else false) := by kernel_rfl
def CCR := pD dNtI λ x => .bool (CM x.n x.a)
theorem CID : AM Try.prog BOB CCR := XN xNtI hNtI λ x _ => UO (A := ann 20 [(n_in, s_in), (ZO, CDM)]) (ren := []) (fz := []) CNT (by kernel_rfl) (AC BKK (AC CHL AJ)) (by
 show CFE x; rw [CNF]; unfold CM wr; cases HG x.n.mi 0 (IntKind.i64.wrap (x.a - 1)) <;> cases IP x.n.t 0 10000000 <;> simp)
structure SL where
 a : Span
 l : List Span
structure NS where
 k : Nat
 m : Span
 deriving Inhabited
def comM (x : SL) : Span := x.l.foldl eS x.a
def C_com : Ctr := { α := SL, xs := λ x => [.d (CL x.a), .d (AX x.l)], L := λ _ => [], val := λ x => .d (CL (comM x)), keep := λ _ => [], pre := λ x => [decide (x.l.length < 4611686018427387904) = true] }
def CML : List AVal -> Heap -> Option (SL × List (Nat × Nat) × List Nat)
 | [.d a, y], H => match XV y H with
  | some (l, f) => some (⟨LI a, l⟩, [], f)
  | none => none
 | _, _ => none
def CSS (x : SL) : Ann := { ann 26 [] with loops := λ id => if id = 2 then some [{ α := NS, dflt := default, T := λ s => ⟨[(2, .bptr 201 0), (4, .bptr 202 0), (7, .d (AX x.l)), (8, .int x.l.length), (9, .int s.k)], [(201, .live (.box [.int s.m.lo, .int s.m.hi])), (202, .live (.box [.int 0, .int 0]))]⟩, inv := λ s => s.k <= x.l.length /\ s.m = (x.l.take s.k).foldl eS x.a, meas := λ s => x.l.length - s.k, first := [(201, 1000), (202, 1016)] }] else none }
def CTB (x : SL) : Prop := AZ Try.prog (CSS x) ATR (AL ATR) (C_com.xs x) (AG []) (C_com.val x) [] [] []
theorem CWK (x : SL) : (CTB x) = ((∃ (a : NS), (x.l.length = x.l.length /\ (∀ (i : Nat), i < x.l.length -> (gD x.l i).lo = (gD x.l i).lo /\ (gD x.l i).hi = (gD x.l i).hi) /\ (↑x.l.length : Int) = (↑x.l.length : Int) /\
 (↑a.k : Int) = (0 : Int) /\ a.m.lo = x.a.lo /\ a.m.hi = x.a.hi /\ Int.ofNat (0 : Nat) = Int.ofNat (0 : Nat) /\ Int.ofNat (0 : Nat) = Int.ofNat (0 : Nat)) /\ a.k <= x.l.length /\ a.m = List.foldl eS x.a (List.take a.k x.l)) /\ ∀
 (a : NS), a.k <= x.l.length /\ a.m = List.foldl eS x.a (List.take a.k x.l) -> bif decide ((↑a.k : Int) < (↑x.l.length : Int)) then ((0 : Int) <= (↑a.k : Int) /\ (↑a.k : Int) < (↑x.l.length : Int)) /\ ∃ (a_2 : NS), (x.l.length
 = x.l.length /\ (∀ (i : Nat), i < x.l.length -> (gD x.l i).lo = (gD x.l i).lo /\ (gD x.l i).hi = (gD x.l i).hi) /\ (↑x.l.length : Int) = (↑x.l.length : Int) /\ (↑a_2.k : Int) = IntKind.i64.wrap ((↑a.k : Int) + (1 : Int)) /\
 a_2.m.lo = DJ a.m.lo (gD x.l a.k).lo /\ a_2.m.hi = JK a.m.hi (gD x.l a.k).hi /\ Int.ofNat (0 : Nat) = Int.ofNat (0 : Nat) /\ Int.ofNat (0 : Nat) = Int.ofNat (0 : Nat)) /\ (a_2.k <= x.l.length /\ a_2.m = List.foldl eS x.a
 (List.take a_2.k x.l)) /\ x.l.length - a_2.k < x.l.length - a.k else (comM x).lo = a.m.lo /\ (comM x).hi = a.m.hi) := by kernel_rfl
theorem CYF (x : SL) (h : x.l.length < 4611686018427387904) : CTB x := by
 rw [CWK]; try simp only [CC, eq_self, implies_true, forall_const]
 refine ⟨⟨⟨0, x.a⟩, ⟨rfl, rfl, rfl⟩, Nat.zero_le _, rfl⟩, λ s ⟨h1, h2⟩ => ⟨λ hlt => ?_, λ hge => ?_⟩⟩
 ·have hlt : s.k < x.l.length := by omega
  refine ⟨by omega, ⟨s.k + 1, eS s.m (gD x.l s.k)⟩, ⟨(GE (by omega)).symm, rfl, rfl⟩, ⟨by show s.k + 1 <= _; omega, ?_⟩, by show x.l.length - (s.k + 1) < _; omega⟩
  show eS s.m (gD x.l s.k) = _
  rw [Aq hlt, List.foldl_append, <- h2]; rfl
 ·rw [h2, List.take_of_length_le (by omega)]; exact ⟨rfl, rfl⟩
theorem CKW : AM Try.prog tT (C_com.spec CML) := LF C_com CSS [] [] CGF (λ _ => by kernel_rfl) (λ _ => AJ) (λ x h => CYF x (of_decide_eq_true h)) (λ _ => NP rfl rfl) _
end Go.Bal
