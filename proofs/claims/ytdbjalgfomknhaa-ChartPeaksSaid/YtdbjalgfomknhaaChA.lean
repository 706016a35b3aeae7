/- Package chart: numbers, spans, notes. -/
import Derived.Test.YtdbjalgfomknhaaChA0
set_option linter.unusedVariables false
set_option linter.unusedSimpArgs false
namespace Go.Bal
open Go Go.Sym Go.Proofs
def wr (n : Int) : Int := IntKind.i64.wrap n
def inM (a b c : Int) : Bool := decide (b <= a) && decide (a <= c)
def withinM (s : Span) (a b : Int) : Bool := inM s.lo a b && inM s.hi s.lo b
def rightM (n : Nt) (m : Int) : Bool := inM n.mi 0 (wr (m - 1)) && withinM n.t 0 10000000 && withinM n.s (-3000000) 3000000
def V_in (x : I3) : Prop := fnVC Try.prog (ann 15 []) F_in (bodyOf F_in) (xI3 x) (heapOf []) (.bool (inM x.a x.b x.c)) [] [] []
theorem vc_in (x : I3) : (V_in x) = (inM x.a x.b x.c = bif decide (x.a >= x.b) then decide (x.a <= x.c) else false) := by kernel_rfl
def s_in := pD dI3 λ x => .bool (inM x.a x.b x.c)
theorem ok_in : SpecOk Try.prog n_in s_in := pD_ok xI3 hI3 λ x _ => fnt (A := ann 15 []) (ren := []) (fz := []) fn_in (by kernel_rfl) gok_nil (by
 show V_in x; rw [vc_in]; unfold inM; by_cases h : x.b <= x.a <;> simp [h])
def V_wi0 (x : SII) : Prop := fnVC Try.prog (ann 20 [(n_in, s_in)]) F_within0 (bodyOf F_within0) (xSII x) (heapOf []) (.bool (withinM x.s x.a x.b)) [] [] []
theorem vc_wi0 (x : SII) : (V_wi0 x) = (withinM x.s x.a x.b = bif inM x.s.lo x.a x.b then inM x.s.hi x.s.lo x.b else false) := by kernel_rfl
def s_wi0 := pD dSII λ x => .bool (withinM x.s x.a x.b)
theorem ok_wi0 : SpecOk Try.prog n_within0 s_wi0 := pD_ok xSII hSII λ x _ => fnt (A := ann 20 [(n_in, s_in)]) (ren := []) (fz := []) fn_within0 (by kernel_rfl) (gok_cons ok_in gok_nil) (by
 show V_wi0 x; rw [vc_wi0]; unfold withinM; cases inM x.s.lo x.a x.b <;> simp)
def V_right (x : NtI) : Prop := fnVC Try.prog (ann 20 [(n_in, s_in), (n_within0, s_wi0)]) F_right (bodyOf F_right) (xNtI x) (heapOf []) (.bool (rightM x.n x.a)) [] [] []
theorem vc_right (x : NtI) : (V_right x) = (rightM x.n x.a = bif bif inM x.n.mi 0 (IntKind.i64.wrap (x.a - 1)) then withinM x.n.t 0 10000000 else false then withinM x.n.s (-3000000) 3000000 else false) := by kernel_rfl
def s_right := pD dNtI λ x => .bool (rightM x.n x.a)
theorem ok_right : SpecOk Try.prog n_right s_right := pD_ok xNtI hNtI λ x _ => fnt (A := ann 20 [(n_in, s_in), (n_within0, s_wi0)]) (ren := []) (fz := []) fn_right (by kernel_rfl) (gok_cons ok_in (gok_cons ok_wi0 gok_nil)) (by
 show V_right x; rw [vc_right]; unfold rightM wr; cases inM x.n.mi 0 (IntKind.i64.wrap (x.a - 1)) <;> cases withinM x.n.t 0 10000000 <;> simp)
structure SL where
 a : Span
 l : List Span
structure NS where
 k : Nat
 m : Span
 deriving Inhabited
def comM (x : SL) : Span := x.l.foldl com x.a
def C_com : Ctr := { α := SL, xs := λ x => [.d (eSpan x.a), .d (eSpans x.l)], L := λ _ => [], val := λ x => .d (eSpan (comM x)), keep := λ _ => [], pre := λ x => [decide (x.l.length < 4611686018427387904) = true] }
def d_com : List AVal -> Heap -> Option (SL × List (Nat × Nat) × List Nat)
 | [.d a, y], H => match dSpans y H with
  | some (l, f) => some (⟨dSpan a, l⟩, [], f)
  | none => none
 | _, _ => none
def A_com (x : SL) : Ann := { ann 26 [] with loops := λ id => if id = 2 then some [{ α := NS, dflt := default, T := λ s => ⟨[(2, .bptr 201 0), (4, .bptr 202 0), (7, .d (eSpans x.l)), (8, .int x.l.length), (9, .int s.k)], [(201, .live (.box [.int s.m.lo, .int s.m.hi])), (202, .live (.box [.int 0, .int 0]))]⟩, inv := λ s => s.k <= x.l.length /\ s.m = (x.l.take s.k).foldl com x.a, meas := λ s => x.l.length - s.k, first := [(201, 1000), (202, 1016)] }] else none }
def V_com (x : SL) : Prop := fnVC Try.prog (A_com x) F_common (bodyOf F_common) (C_com.xs x) (heapOf []) (C_com.val x) [] [] []
theorem vc_com (x : SL) : (V_com x) = ((∃ (a : NS), (x.l.length = x.l.length /\ (∀ (i : Nat), i < x.l.length -> (gD x.l i).lo = (gD x.l i).lo /\ (gD x.l i).hi = (gD x.l i).hi) /\ (↑x.l.length : Int) = (↑x.l.length : Int) /\
 (↑a.k : Int) = (0 : Int) /\ a.m.lo = x.a.lo /\ a.m.hi = x.a.hi /\ Int.ofNat (0 : Nat) = Int.ofNat (0 : Nat) /\ Int.ofNat (0 : Nat) = Int.ofNat (0 : Nat)) /\ a.k <= x.l.length /\ a.m = List.foldl com x.a (List.take a.k x.l)) /\ ∀
 (a : NS), a.k <= x.l.length /\ a.m = List.foldl com x.a (List.take a.k x.l) -> bif decide ((↑a.k : Int) < (↑x.l.length : Int)) then ((0 : Int) <= (↑a.k : Int) /\ (↑a.k : Int) < (↑x.l.length : Int)) /\ ∃ (a_2 : NS), (x.l.length
 = x.l.length /\ (∀ (i : Nat), i < x.l.length -> (gD x.l i).lo = (gD x.l i).lo /\ (gD x.l i).hi = (gD x.l i).hi) /\ (↑x.l.length : Int) = (↑x.l.length : Int) /\ (↑a_2.k : Int) = IntKind.i64.wrap ((↑a.k : Int) + (1 : Int)) /\
 a_2.m.lo = maxI a.m.lo (gD x.l a.k).lo /\ a_2.m.hi = minI a.m.hi (gD x.l a.k).hi /\ Int.ofNat (0 : Nat) = Int.ofNat (0 : Nat) /\ Int.ofNat (0 : Nat) = Int.ofNat (0 : Nat)) /\ (a_2.k <= x.l.length /\ a_2.m = List.foldl com x.a
 (List.take a_2.k x.l)) /\ x.l.length - a_2.k < x.l.length - a.k else (comM x).lo = a.m.lo /\ (comM x).hi = a.m.hi) := by kernel_rfl
theorem p_com (x : SL) (h : x.l.length < 4611686018427387904) : V_com x := by
 rw [vc_com]; try simp only [condP, eq_self, implies_true, and_self, true_and, and_true, true_implies, forall_const, decide_eq_true_eq, decide_eq_false_iff_not, Int.toNat_natCast, dSpan_eSpan, dInt_eInt, dMk_e, dNt_e, dPr_e, Nat.zero_add, Int.zero_sub, Nat.le_eq, Nat.succ_eq_add_one, Nat.add_one_le_iff, Bool.not_eq_true', Bool.not_eq_false', rng_length, dSpan_mk, rng_getD]
 refine ⟨⟨⟨0, x.a⟩, ⟨rfl, rfl, rfl⟩, Nat.zero_le _, rfl⟩, λ s ⟨h1, h2⟩ => ⟨λ hlt => ?_, λ hge => ?_⟩⟩
 ·have hlt : s.k < x.l.length := by omega
  refine ⟨by omega, ⟨s.k + 1, com s.m (gD x.l s.k)⟩, ⟨(wsucc (by omega)).symm, rfl, rfl⟩, ⟨by show s.k + 1 <= _; omega, ?_⟩, by show x.l.length - (s.k + 1) < _; omega⟩
  show com s.m (gD x.l s.k) = _
  rw [take_snoc hlt, List.foldl_append, <- h2]; rfl
 ·rw [h2, List.take_of_length_le (by omega)]; exact ⟨rfl, rfl⟩
theorem ok_com : SpecOk Try.prog n_common (C_com.spec d_com) := okC C_com A_com [] [] fn_common (λ _ => by kernel_rfl) (λ _ => gok_nil) (λ x h => p_com x (of_decide_eq_true h)) (λ _ => noI rfl rfl) _
end Go.Bal
