/- Package chart: copies as data, and whether spans contain spans. -/
import Derived.Test.YtdbjalgfomknhaaChV
set_option linter.unusedVariables false
set_option linter.unusedSimpArgs false
namespace Go.Bal
open Go Go.Sym Go.Proofs
def CCK : List AVal -> Heap -> Option (List Mk × List (Nat × Nat) × List Nat)
 | [y], H => match dMks y H with
  | some (l, f) => some (l, [], f)
  | none => none
 | _, _ => none
def BFR : List AVal -> Heap -> Option (List Nt × List (Nat × Nat) × List Nat)
 | [y], H => match dNts y H with
  | some (l, f) => some (l, [], f)
  | none => none
 | _, _ => none
def C_cpM : Ctr := { α := List Mk, xs := λ l => [.d (eMks l)], L := λ _ => [], val := λ l => .d (eMks l), keep := λ _ => [], pre := λ l => [l.length < 1073741824] }
def DMR (l : List Mk) : Prop := AZ Try.prog (ann 7 []) CIN (AN CIN) (C_cpM.xs l) (AF []) (C_cpM.val l) [] [] []
theorem DPP (l : List Mk) : (DMR l) = (((True /\ (0 < 0 -> 0 = 2)) /\ (True /\ (0 < l.length -> 2 = 2)) /\ (false = true -> 0 < l.length) /\ 0 + l.length <= 9223372036854775807 /\ (0 + l.length) * 16 <= 140737488355328) /\
 l.length = 0 + l.length /\ ∀ (i : Nat), i < l.length -> (gD l i).pl = (gD l (i - 0)).pl /\ (gD l i).ht = (gD l (i - 0)).ht) := by kernel_rfl
def C_cpN : Ctr := { α := List Nt, xs := λ l => [.d (rL l)], L := λ _ => [], val := λ l => .d (rL l), keep := λ _ => [], pre := λ l => [l.length < 1073741824] }
def DLR (l : List Nt) : Prop := AZ Try.prog (ann 7 []) He (AN He) (C_cpN.xs l) (AF []) (C_cpN.val l) [] [] []
theorem DOD (l : List Nt) : (DLR l) = (((True /\ (0 < 0 -> 0 = 5)) /\ (True /\ (0 < l.length -> 5 = 5)) /\ (false = true -> 0 < l.length) /\ 0 + l.length <= 9223372036854775807 /\ (0 + l.length) * 40 <= 140737488355328) /\
 l.length = 0 + l.length /\ ∀ (i : Nat), i < l.length -> (gD l i).mi = (gD l (i - 0)).mi /\ (gD l i).t.lo = (gD l (i - 0)).t.lo /\ (gD l i).t.hi = (gD l (i - 0)).t.hi /\ (gD l i).s.lo = (gD l (i - 0)).s.lo /\ (gD l i).s.hi =
 (gD l (i - 0)).s.hi) := by kernel_rfl
def C_cpC : Ctr := { α := Cht, xs := λ c => [.d (VZ c)], L := λ _ => [], val := λ c => .d (VZ c), keep := λ _ => [], pre := λ c => [c.ms.length < 1073741824 /\ c.ns.length < 1073741824] }
def DLB : Ann := ann 12 [(Ii, C_cpM.spec CCK), (PH, C_cpN.spec BFR)]
def DKV (c : Cht) : Prop := AZ Try.prog DLB G8 (AN G8) (C_cpC.xs c) (AF []) (C_cpC.val c) [] [] []
theorem DOB (c : Cht) : (DKV c) = (((AE c.ms.length λ (i : Nat) => gD c.ms i).length = c.ms.length /\ (∀ (i : Nat), i < (AE c.ms.length λ (i : Nat) => gD c.ms i).length -> (gD (AE c.ms.length λ (i : Nat) =>
 gD c.ms i) i).pl = (gD c.ms i).pl /\ (gD (AE c.ms.length λ (i : Nat) => gD c.ms i) i).ht = (gD c.ms i).ht) /\ (AE c.ms.length λ (i : Nat) => gD c.ms i).length < 1073741824 /\ (AE c.ns.length λ (i : Nat) => gD c.ns
 i).length = c.ns.length /\ (∀ (i : Nat), i < (AE c.ns.length λ (i : Nat) => gD c.ns i).length -> (gD (AE c.ns.length λ (i : Nat) => gD c.ns i) i).mi = (gD c.ns i).mi /\ (gD (AE c.ns.length λ (i : Nat) => gD c.ns i)
 i).t.lo = (gD c.ns i).t.lo /\ (gD (AE c.ns.length λ (i : Nat) => gD c.ns i) i).t.hi = (gD c.ns i).t.hi /\ (gD (AE c.ns.length λ (i : Nat) => gD c.ns i) i).s.lo = (gD c.ns i).s.lo /\ (gD (AE c.ns.length λ (i : Nat)
 => gD c.ns i) i).s.hi = (gD c.ns i).s.hi) /\ (AE c.ns.length λ (i : Nat) => gD c.ns i).length.succ.le 1073741824) /\ c.p.lo = c.p.lo /\ c.p.hi = c.p.hi /\ c.base = c.base /\ c.scale = c.scale /\ c.off = c.off /\ c.ms.length
 = (AE c.ms.length λ (i : Nat) => gD c.ms i).length /\ (∀ (i : Nat), i < c.ms.length -> (gD c.ms i).pl = (gD (AE c.ms.length λ (i : Nat) => gD c.ms i) i).pl /\ (gD c.ms i).ht = (gD (AE c.ms.length λ (i : Nat) => gD
 c.ms i) i).ht) /\ c.ns.length = (AE c.ns.length λ (i : Nat) => gD c.ns i).length /\ ∀ (i : Nat), i < c.ns.length -> (gD c.ns i).mi = (gD (AE c.ns.length λ (i : Nat) => gD c.ns i) i).mi /\ (gD c.ns i).t.lo = (gD (AE
 c.ns.length λ (i : Nat) => gD c.ns i) i).t.lo /\ (gD c.ns i).t.hi = (gD (AE c.ns.length λ (i : Nat) => gD c.ns i) i).t.hi /\ (gD c.ns i).s.lo = (gD (AE c.ns.length λ (i : Nat) => gD c.ns i) i).s.lo /\ (gD c.ns
 i).s.hi = (gD (AE c.ns.length λ (i : Nat) => gD c.ns i) i).s.hi) := by kernel_rfl
def C_cpNO : Ctr := { α := List Nt, xs := λ l => [.d (rL l)], L := λ _ => [], val := λ l => .own 0 5 0 l.length, keep := λ l => [(0, .live (.row 5 l.length λ i => eNt (gD l i)))], pre := λ l => [0 < l.length /\ l.length < 1073741824] }
def CYV (l : List Nt) : Prop := AZ Try.prog { ann 7 [] with mt := λ id => id == 2 } He (AN He) (C_cpNO.xs l) (AF []) (C_cpNO.val l) (C_cpNO.keep l) [(0, 3032)] []
theorem DIY (l : List Nt) : (CYV l) = (((True /\ (0 < 0 -> 0 = 5)) /\ (True /\ (0 < l.length -> 5 = 5)) /\ (true = true -> 0 < l.length) /\ 0 + l.length <= 9223372036854775807 /\ (0 + l.length) * 40 <= 140737488355328) /\ 0 =
 0 /\ l.length = 0 + l.length /\ l.length = 0 + l.length /\ ∀ (i : Nat), i < l.length -> (gD l i).mi = (gD l (i - 0)).mi /\ (gD l i).t.lo = (gD l (i - 0)).t.lo /\ (gD l i).t.hi = (gD l (i - 0)).t.hi /\ (gD l i).s.lo = (gD l (i -
 0)).s.lo /\ (gD l i).s.hi = (gD l (i - 0)).s.hi) := by kernel_rfl
def C_cpO : Ctr := { α := Cht, xs := λ c => [.d (VZ c)], L := λ _ => [], val := λ c => .agg [.int c.p.lo, .int c.p.hi, .int c.base, .int c.scale, .int c.off, .d (eMks c.ms), .own 0 5 0 c.ns.length], keep := λ c => [(0, .live (.row 5 c.ns.length λ i => eNt (gD c.ns i)))], pre := λ c => [c.ms.length < 1073741824 /\ 0 < c.ns.length /\ c.ns.length < 1073741824] }
def DKI (c : Cht) : Prop := AZ Try.prog (ann 12 [(Ii, C_cpM.spec CCK), (PH, C_cpNO.spec BFR)]) G8 (AN G8) (C_cpO.xs c) (AF []) (C_cpO.val c) (C_cpO.keep c) [(0, 2080)] []
theorem DPM (c : Cht) : (DKI c) = (((AE c.ms.length λ (i : Nat) => gD c.ms i).length = c.ms.length /\ (∀ (i : Nat), i < (AE c.ms.length λ (i : Nat) => gD c.ms i).length -> (gD (AE c.ms.length λ (i : Nat) =>
 gD c.ms i) i).pl = (gD c.ms i).pl /\ (gD (AE c.ms.length λ (i : Nat) => gD c.ms i) i).ht = (gD c.ms i).ht) /\ (AE c.ms.length λ (i : Nat) => gD c.ms i).length < 1073741824 /\ (AE c.ns.length λ (i : Nat) => gD c.ns
 i).length = c.ns.length /\ (∀ (i : Nat), i < (AE c.ns.length λ (i : Nat) => gD c.ns i).length -> (gD (AE c.ns.length λ (i : Nat) => gD c.ns i) i).mi = (gD c.ns i).mi /\ (gD (AE c.ns.length λ (i : Nat) => gD c.ns i)
 i).t.lo = (gD c.ns i).t.lo /\ (gD (AE c.ns.length λ (i : Nat) => gD c.ns i) i).t.hi = (gD c.ns i).t.hi /\ (gD (AE c.ns.length λ (i : Nat) => gD c.ns i) i).s.lo = (gD c.ns i).s.lo /\ (gD (AE c.ns.length λ (i : Nat)
 => gD c.ns i) i).s.hi = (gD c.ns i).s.hi) /\ 0 < (AE c.ns.length λ (i : Nat) => gD c.ns i).length /\ (AE c.ns.length λ (i : Nat) => gD c.ns i).length < 1073741824) /\ c.p.lo = c.p.lo /\ c.p.hi = c.p.hi /\ c.base =
 c.base /\ c.scale = c.scale /\ c.off = c.off /\ c.ms.length = (AE c.ms.length λ (i : Nat) => gD c.ms i).length /\ (∀ (i : Nat), i < c.ms.length -> (gD c.ms i).pl = (gD (AE c.ms.length λ (i : Nat) => gD c.ms i) i).pl /\
 (gD c.ms i).ht = (gD (AE c.ms.length λ (i : Nat) => gD c.ms i) i).ht) /\ 0 = 0 /\ c.ns.length = (AE c.ns.length λ (i : Nat) => gD c.ns i).length /\ c.ns.length = (AE c.ns.length λ (i : Nat) => gD c.ns i).length /\ ∀
 (i : Nat), i < c.ns.length -> (gD c.ns i).mi = (gD (AE c.ns.length λ (i : Nat) => gD c.ns i) i).mi /\ (gD c.ns i).t.lo = (gD (AE c.ns.length λ (i : Nat) => gD c.ns i) i).t.lo /\ (gD c.ns i).t.hi = (gD (AE c.ns.length
 λ (i : Nat) => gD c.ns i) i).t.hi /\ (gD c.ns i).s.lo = (gD (AE c.ns.length λ (i : Nat) => gD c.ns i) i).s.lo /\ (gD c.ns i).s.hi = (gD (AE c.ns.length λ (i : Nat) => gD c.ns i) i).s.hi) := by kernel_rfl
def DAX : DVal := .list 0 0 (λ _ => default) false
def DDC (_x : One) : Prop := AZ Try.prog (ann 7 []) He (AN He) [.d DAX] (AF []) (.d GE) [] [] []
theorem DFY (_x : One) : (DDC _x) = (((True /\ (0 < 0 -> 0 = 5)) /\ (True /\ (0 < 0 -> 0 = 5)) /\ (false = true -> 0 < 0) /\ 0 <= 9223372036854775807 /\ 0 <= 140737488355328) /\ 0 = 0 /\ 0 = 0) := by kernel_rfl
def C_cpNE : Ctr := { α := List Nt, xs := λ l => [.d (rL l)], L := λ _ => [], val := λ _ => .d GE, keep := λ _ => [], pre := λ l => [l.length = 0] }
def C_cpE : Ctr := { α := Cht, xs := λ c => [.d (VZ c)], L := λ _ => [], val := λ c => .agg [.int c.p.lo, .int c.p.hi, .int c.base, .int c.scale, .int c.off, .d (eMks c.ms), .d GE], keep := λ _ => [], pre := λ c => [c.ms.length < 1073741824 /\ c.ns.length = 0] }
def DMD (c : Cht) : Prop := AZ Try.prog (ann 12 [(Ii, C_cpM.spec CCK), (PH, C_cpNE.spec BFR)]) G8 (AN G8) (C_cpE.xs c) (AF []) (C_cpE.val c) [] [] []
theorem DPC (c : Cht) : (DMD c) = (((AE c.ms.length λ (i : Nat) => gD c.ms i).length = c.ms.length /\ (∀ (i : Nat), i < (AE c.ms.length λ (i : Nat) => gD c.ms i).length -> (gD (AE c.ms.length λ (i : Nat) =>
 gD c.ms i) i).pl = (gD c.ms i).pl /\ (gD (AE c.ms.length λ (i : Nat) => gD c.ms i) i).ht = (gD c.ms i).ht) /\ (AE c.ms.length λ (i : Nat) => gD c.ms i).length < 1073741824 /\ (AE c.ns.length λ (i : Nat) => gD c.ns
 i).length = c.ns.length /\ (∀ (i : Nat), i < (AE c.ns.length λ (i : Nat) => gD c.ns i).length -> (gD (AE c.ns.length λ (i : Nat) => gD c.ns i) i).mi = (gD c.ns i).mi /\ (gD (AE c.ns.length λ (i : Nat) => gD c.ns i)
 i).t.lo = (gD c.ns i).t.lo /\ (gD (AE c.ns.length λ (i : Nat) => gD c.ns i) i).t.hi = (gD c.ns i).t.hi /\ (gD (AE c.ns.length λ (i : Nat) => gD c.ns i) i).s.lo = (gD c.ns i).s.lo /\ (gD (AE c.ns.length λ (i : Nat)
 => gD c.ns i) i).s.hi = (gD c.ns i).s.hi) /\ (AE c.ns.length λ (i : Nat) => gD c.ns i).length = 0) /\ c.p.lo = c.p.lo /\ c.p.hi = c.p.hi /\ c.base = c.base /\ c.scale = c.scale /\ c.off = c.off /\ c.ms.length = (AE
 c.ms.length λ (i : Nat) => gD c.ms i).length /\ (∀ (i : Nat), i < c.ms.length -> (gD c.ms i).pl = (gD (AE c.ms.length λ (i : Nat) => gD c.ms i) i).pl /\ (gD c.ms i).ht = (gD (AE c.ms.length λ (i : Nat) => gD c.ms i)
 i).ht) /\ 0 = 0 /\ ∀ (i : Nat), i < 0 -> false = false) := by kernel_rfl
def coS (x : SS2) (i : Nat) : Bool := decide ((gD x.l i).lo <= (gD x.m i).lo) && decide ((gD x.m i).hi <= (gD x.l i).hi)
def XA (x : SS2) : Bool := x.l.length == x.m.length && eqN (coS x) x.l.length
def C_con : Ctr := { α := SS2, xs := λ x => [.d (AV x.l), .d (AV x.m)], val := λ x => .bool (XA x), keep := λ _ => [], pre := λ x => [x.l.length < 4611686018427387904 /\ x.m.length < 4611686018427387904] }
def co4 (x : SS2) : Shape := { α := Nat, dflt := 0, T := λ k => ⟨[(0, .d (AV x.l)), (1, .d (AV x.m)), (5, .int k)], []⟩, inv := λ k => k <= x.l.length /\ eqN (coS x) k = true, meas := λ k => x.l.length - k }
def DLJ (x : SS2) : Ann := { ann 41 [] with loops := λ id => if id = 4 then some [co4 x] else none }
def DJG (x : SS2) : Prop := AZ Try.prog (DLJ x) C4 (AN C4) (C_con.xs x) (AF []) (C_con.val x) [] [] []
theorem DOQ (x : SS2) : (DJG x) = (bif (↑x.l.length : Int) != (↑x.m.length : Int) then XA x = false else (∃ (a : Nat), (x.l.length = x.l.length /\ (∀ (i : Nat), i < x.l.length -> (gD x.l i).lo = (gD x.l i).lo /\ (gD
 x.l i).hi = (gD x.l i).hi) /\ x.m.length = x.m.length /\ (∀ (i : Nat), i < x.m.length -> (gD x.m i).lo = (gD x.m i).lo /\ (gD x.m i).hi = (gD x.m i).hi) /\ (↑a : Int) = 0) /\ a <= x.l.length /\ eqN (coS x) a = true) /\ ∀ (a :
 Nat), a <= x.l.length /\ eqN (coS x) a = true -> bif decide ((↑a : Int) < (↑x.l.length : Int)) then ((0 <= (↑a : Int) /\ (↑a : Int) < (↑x.l.length : Int)) /\ (0 <= (↑a : Int) /\ (↑a : Int) < (↑x.m.length : Int)) /\ ((!decide ((gD
 x.l a).lo > (gD x.m a).lo)) = true -> 0 <= (↑a : Int) /\ (↑a : Int) < (↑x.l.length : Int)) /\ ((!decide ((gD x.l a).lo > (gD x.m a).lo)) = true -> 0 <= (↑a : Int) /\ (↑a : Int) < (↑x.m.length : Int))) /\ bif bif decide ((gD x.l
 a).lo > (gD x.m a).lo) then true else decide ((gD x.l a).hi < (gD x.m a).hi) then XA x = false else ∃ (a_2 : Nat), (x.l.length = x.l.length /\ (∀ (i : Nat), i < x.l.length -> (gD x.l i).lo = (gD x.l i).lo /\ (gD x.l i).hi
 = (gD x.l i).hi) /\ x.m.length = x.m.length /\ (∀ (i : Nat), i < x.m.length -> (gD x.m i).lo = (gD x.m i).lo /\ (gD x.m i).hi = (gD x.m i).hi) /\ (↑a_2 : Int) = IntKind.i64.wrap ((↑a : Int) + 1)) /\ (a_2 <= x.l.length /\ eqN
 (coS x) a_2 = true) /\ x.l.length - a_2 < x.l.length - a else XA x = true) := by kernel_rfl
theorem CQT : AP Try.prog Ii (C_cpM.spec CCK) := MC C_cpM (λ _ => ann 7 []) [] [] DDX (λ _ => by kernel_rfl) (λ _ => AK) (λ (l : List Mk) h => by
 show DMR l; rw [DPP]; simp only [CC, eq_self, implies_true, forall_const]
 have h : l.length < 1073741824 := h
 exact ⟨⟨λ h => absurd h (Nat.lt_irrefl 0), (λ h => by cases h), by omega, by omega⟩, λ i hi => by rw [Nat.sub_zero]; exact ⟨rfl, rfl⟩⟩) (λ _ => MO rfl rfl) _
theorem DOM : AP Try.prog PH (C_cpN.spec BFR) := MC C_cpN (λ _ => ann 7 []) [] [] BUL (λ _ => by kernel_rfl) (λ _ => AK) (λ (l : List Nt) h => by
 show DLR l; rw [DOD]; simp only [CC, eq_self, implies_true, forall_const]
 have h : l.length < 1073741824 := h
 exact ⟨⟨λ h => absurd h (Nat.lt_irrefl 0), (λ h => by cases h), by omega, by omega⟩, λ i hi => by rw [Nat.sub_zero]; exact ⟨rfl, rfl, rfl, rfl, rfl⟩⟩) (λ _ => MO rfl rfl) _
theorem DEP : AP Try.prog BJZ (C_cpC.spec dC1) := MC C_cpC (λ _ => DLB) [] [] CFU (λ _ => by kernel_rfl) (λ _ => AD CQT (AD DOM AK)) (λ (c : Cht) h => by
 show DKV c; rw [DOB]; simp only [CC, eq_self, implies_true, forall_const]
 have h : c.ms.length < 1073741824 /\ c.ns.length < 1073741824 := h
 exact h) (λ _ => MO rfl rfl) _
theorem DGH : AP Try.prog PH (C_cpNO.spec BFR) := MC C_cpNO (λ _ => { ann 7 [] with mt := λ id => id == 2 }) [(0, 3032)] [] BUL (λ _ => by kernel_rfl) (λ _ => AK) (λ (l : List Nt) h => by
 show CYV l; rw [DIY]; simp only [CC, eq_self, implies_true, forall_const]
 obtain ⟨h1, h2⟩ : 0 < l.length /\ l.length < 1073741824 := h
 exact ⟨⟨by omega, h1, by omega, by omega⟩, λ _ _ => ⟨rfl, rfl, rfl, rfl, rfl⟩⟩) (λ _ => MO rfl rfl) _
theorem DNO : AP Try.prog BJZ (C_cpO.spec dC1) := MC C_cpO (λ _ => ann 12 [(Ii, C_cpM.spec CCK), (PH, C_cpNO.spec BFR)]) [(0, 2080)] [] CFU (λ _ => by kernel_rfl) (λ _ => AD CQT (AD DGH AK)) (λ (c : Cht) h => by
 show DKI c; rw [DPM]; simp only [CC, eq_self, implies_true, forall_const]
 exact (show c.ms.length < 1073741824 /\ 0 < c.ns.length /\ c.ns.length < 1073741824 from h)) (λ _ => MO rfl rfl) _
theorem DIG : AP Try.prog PH (C_cpNE.spec BFR) := okT C_cpNE (λ (l : List Nt) (h : l.length = 0) => by
 obtain rfl : l = [] := List.length_eq_zero_iff.1 h
 have q : FnT Try.prog PH [.d DAX] (AF []) (.d GE) [] := by
  refine TV (A := ann 7 []) (ren := []) (fz := []) BUL (by kernel_rfl) AK ?_
  show DDC default; rw [DFY]; simp only [CC, eq_self, implies_true, forall_const]
  exact ⟨λ h => absurd h (Nat.lt_irrefl 0), λ h => absurd h (Nat.lt_irrefl 0), (λ h => by cases h), by decide, by decide⟩
 refine q.weak (DNQ ?_)
 simp only [DAX, rL, lst, BV]
 refine ⟨.inr trivial, rfl, ?_, λ i hi => absurd hi (Nat.not_lt_zero _)⟩
 intro h; cases h) _
theorem DOJ : AP Try.prog BJZ (C_cpE.spec dC1) := MC C_cpE (λ _ => ann 12 [(Ii, C_cpM.spec CCK), (PH, C_cpNE.spec BFR)]) [] [] CFU (λ _ => by kernel_rfl) (λ _ => AD CQT (AD DIG AK)) (λ (c : Cht) h => by
 show DMD c; rw [DPC]; simp only [CC, eq_self, implies_true, forall_const]
 exact (show c.ms.length < 1073741824 /\ c.ns.length = 0 from h)) (λ _ => MO rfl rfl) _
theorem DIW (x : SS2) (k : Nat) : coS x k = !(bif decide ((gD x.l k).lo > (gD x.m k).lo) then true else decide ((gD x.l k).hi < (gD x.m k).hi)) := by
 unfold coS
 by_cases h1 : (gD x.l k).lo > (gD x.m k).lo
 ·rw [decide_eq_true h1, decide_eq_false (show ¬ (gD x.l k).lo <= (gD x.m k).lo by omega)]; rfl
 ·rw [decide_eq_false h1, decide_eq_true (show (gD x.l k).lo <= (gD x.m k).lo by omega)]
  by_cases h2 : (gD x.l k).hi < (gD x.m k).hi
  ·rw [decide_eq_true h2, decide_eq_false (show ¬ (gD x.m k).hi <= (gD x.l k).hi by omega)]; rfl
  ·rw [decide_eq_false h2, decide_eq_true (show (gD x.m k).hi <= (gD x.l k).hi by omega)]; rfl
theorem DRL (x : SS2) (h : x.l.length < 4611686018427387904 /\ x.m.length < 4611686018427387904) : DJG x := by
 rw [DOQ]; simp only [CC, eq_self, implies_true, forall_const]
 refine ⟨λ hn => ?_, λ hn => ⟨⟨0, rfl, Nat.zero_le _, rfl⟩, ?_⟩⟩
 ·unfold XA
  have : (x.l.length == x.m.length) = false := by simp at hn ⊢; omega
  rw [this]; rfl
 ·have hl : (x.l.length == x.m.length) = true := by simp at hn ⊢; omega
  have hl2 : x.l.length = x.m.length := by simpa using hl
  rintro k ⟨hk, he⟩
  have e : coS x k = !(bif decide ((gD x.l k).lo > (gD x.m k).lo) then true else decide ((gD x.l k).hi < (gD x.m k).hi)) := DIW x k
  refine ⟨λ hlt => ⟨⟨⟨by omega, by omega⟩, ⟨by omega, by omega⟩, λ _ => ⟨by omega, by omega⟩, λ _ => ⟨by omega, by omega⟩⟩, λ hc => ?_, λ hc => ⟨k + 1, (GC (by omega)).symm, ⟨by omega, CTG he ?_⟩, by omega⟩⟩, λ hge => ?_⟩
  ·unfold XA
   rw [CGQ (f := coS x) (show k < x.l.length by omega) (by rw [e, hc]; rfl), Bool.and_false]
  ·rw [e, hc]; rfl
  ·obtain rfl : k = x.l.length := by omega
   unfold XA; rw [hl, he]; rfl
theorem DDI : AP Try.prog sH (C_con.spec dSS2) := MC C_con DLJ [] [] COP (λ _ => by kernel_rfl) (λ _ => AK) (λ (x : SS2) h => DRL x h) (λ _ => MO rfl rfl) _
theorem CTR {f : Nat -> Bool} : ∀ {n : Nat}, eqN f n = true ↔ ∀ k, k < n -> f k = true
 | 0 => ⟨λ _ k h => absurd h (Nat.not_lt_zero _), λ _ => rfl⟩
 | n + 1 => by
  show (eqN f n && f n) = true ↔ _
  rw [Bool.and_eq_true, CTR]
  constructor
  ·rintro ⟨h1, h2⟩ k hk
   rcases Nat.lt_or_ge k n with q | q
   ·exact h1 k q
   ·obtain rfl : k = n := by omega
    exact h2
  ·intro h; exact ⟨λ k hk => h k (by omega), h n (Nat.lt_succ_self _)⟩
theorem DJE {l m : List Span} : XA ⟨l, m⟩ = true ↔ l.length = m.length /\ ∀ i, i < l.length -> (gD l i).lo <= (gD m i).lo /\ (gD m i).hi <= (gD l i).hi := by
 unfold XA
 rw [Bool.and_eq_true, beq_iff_eq, CTR]
 constructor
 ·rintro ⟨h1, h2⟩
  refine ⟨h1, λ i hi => ?_⟩
  have := h2 i hi
  unfold coS at this
  rw [Bool.and_eq_true, decide_eq_true_eq, decide_eq_true_eq] at this
  exact this
 ·rintro ⟨h1, h2⟩
  refine ⟨h1, λ i hi => ?_⟩
  unfold coS
  rw [Bool.and_eq_true, decide_eq_true_eq, decide_eq_true_eq]
  exact h2 i hi
end Go.Bal
