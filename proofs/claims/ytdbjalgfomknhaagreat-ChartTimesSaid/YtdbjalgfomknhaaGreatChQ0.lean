/- Package chart: Clone of ints, also of none. -/
import Derived.Test.YtdbjalgfomknhaaGreatChO
set_option linter.unusedVariables false
set_option linter.unusedSimpArgs false
namespace Go.Bal
open Go Go.Sym Go.Proofs
def nilN : DVal := .list 0 0 (λ _ => default) false
def AXS : Ann := { ann 8 [] with md := λ id => if id = 3 then some (λ k => if k = 0 then 4 else 0) else none }
def AXI (_x : One) : Prop := CH Try.prog AXS lM (AH lM) [.d nilN] (AB []) (.d (DV ([] : List Int))) [] [] []
abbrev AVY:=@default Bool instInhabitedBool
attribute [go_sem] AVY
theorem BDI (_x : One) : (AXI _x) = (Fg (VW AI) (RE (Av Am) (Av (JD 0)) (Hz 0) (DJ 0 9223372036854775807) 0) AI (λ i=>AU i 0 (NY (Ln (FK ANU i)) (Value.bool (wN (jV i 0) AVY AVY))))) := by kernel_rfl
def C_clI : Ctr := { α := List Int, xs := λ l => [.d (DV l)], val := λ l => .d (DV l), keep := λ _ => [], pre := λ l => [l.length < 1000000] }
theorem BTQ : AJ Try.prog yV (C_clI.spec dIs1) := okT C_clI (λ (l : List Int) (h : l.length < 1000000) => by
 rcases Nat.eq_zero_or_pos l.length with h0 | h0
 ·obtain rfl : l = [] := List.length_eq_zero_iff.1 h0
  have q : FnT Try.prog yV [.d nilN] (AB []) (.d (DV ([] : List Int))) [] := by
   refine Hp (A := AXS) (ren := []) (fz := []) AHY (by kernel_rfl) AC ?_
   show AXI default; rw [BDI]<;> delta KH wN ZR NO BW AD BU CL DJ IH FK JL NY jV ANU AVY AE AF AU BC AO AI CK HF NB Ln PM SN JD RE ZM Av Am VW Hz Fg; simp only [CC, eq_self, implies_true, forall_const]
   exact ⟨⟨λ h => absurd h (Nat.lt_irrefl 0), (λ h => by cases h), by decide, by decide⟩, λ i hi => absurd hi (Nat.not_lt_zero _)⟩
  refine q.weak (BSM ?_)
  simp only [nilN, DV, lst, JX]
  refine ⟨.inr trivial, rfl, ?_, λ i hi => absurd hi (Nat.not_lt_zero _)⟩
  intro h; cases h
 ·refine Hp (A := BAL) (ren := []) (fz := []) AHY (by kernel_rfl) AC ?_
  show BAA l; rw [BNE]<;> delta KH ZR BW AD BU CL AR DJ LO IH FP FK JL QC KI En AE AF AU BC BV IY EN AO AI CK HF MB LL TZ PI SM NB PM QK SN RE ZM Am ZE Hz Fg; simp only [CC, eq_self, implies_true, forall_const]
  exact ⟨h0, ⟨(λ h => by cases h), by omega, by omega⟩, λ i hi => by rw [Nat.sub_zero]⟩) _
end Go.Bal
