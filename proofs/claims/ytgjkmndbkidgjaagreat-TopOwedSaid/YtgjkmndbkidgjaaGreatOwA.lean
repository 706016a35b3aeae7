/- TopOwed: data, and how they read; numbers of package share. -/
import Derived.Test.YtgjkmndbkidgjaaGreatOwN
set_option linter.unusedVariables false
set_option linter.unusedSimpArgs false
namespace Go.Bal
open Go Go.Sym Go.Proofs
structure Pt where
 x : Int
 d : Int
 deriving Inhabited, DecidableEq
structure Bd where
 t : List Pt
 c : Int
 deriving Inhabited
structure Yr where
 i : Span
 d : Span
 sp : Bool
 deriving Inhabited, DecidableEq
structure Wk where
 of : List Int
 ba : Int
 mi : Int
 deriving Inhabited, DecidableEq
def ePt (p : Pt) : DVal := .agg [BM p.x, BM p.d]
def HP (l : List Pt) : DVal := lst 2 l.length λ i => ePt (gD l i)
def eBd (b : Bd) : DVal := .agg [HP b.t, BM b.c]
def eYr (y : Yr) : DVal := .agg [BM y.i.lo, BM y.i.hi, BM y.d.lo, BM y.d.hi, xG y.sp]
def gL (l : List Yr) : DVal := lst 5 l.length λ i => eYr (gD l i)
def BK (w : Wk) : DVal := .agg [AF w.of, BM w.ba, BM w.mi]
def JZ (l : List Wk) : DVal := lst 3 l.length λ i => BK (gD l i)
def ADS (l : List Span) : DVal := lst 2 l.length λ i => Ff (gD l i)
def dPt : DVal -> Pt
 | .agg [a, b] => ⟨CR a, CR b⟩
 | _ => default
def dYr : DVal -> Yr
 | .agg [a, b, c, d, e] => ⟨⟨CR a, CR b⟩, ⟨CR c, CR d⟩, ABC e⟩
 | _ => default
def BE : DVal -> Wk
 | .agg [.list _ n g _, a, b] => ⟨AJ n λ i => CR (g i), CR a, CR b⟩
 | _ => default
def fX : DVal -> Bd
 | .agg [.list _ n g _, a] => ⟨AJ n λ i => dPt (g i), CR a⟩
 | _ => default
theorem AV (b : Bool) : ABC (xG b) = b := rfl
theorem BH (g : Pt) : dPt (ePt g) = g := rfl
theorem BJ (g : Yr) : dYr (eYr g) = g := rfl
theorem BC (g : Wk) : BE (BK g) = g := by
 cases g with
 | mk of ba mi => simp only [BK, AF, lst, BE, dInt_eInt, AP]
theorem AVW (g : Bd) : fX (eBd g) = g := by
 cases g with
 | mk t c => simp only [eBd, HP, lst, fX, dInt_eInt, BH, AP]
theorem AZ (t : List Pt) (c : Int) : fX (.agg [HP t, BM c]) = ⟨t, c⟩ := AVW ⟨t, c⟩
theorem AX (t : List Pt) (c : Int) : fX (.agg [HP t, .v (.int .i64 c)]) = ⟨t, c⟩ := AVW ⟨t, c⟩
theorem AY (l : List Int) (a b : Int) : BE (.agg [AF l, BM a, BM b]) = ⟨l, a, b⟩ := BC ⟨l, a, b⟩
end Go.Bal
namespace Go.Bal.DL
open Go.Sym Go
theorem y1 (a b c d : Int) (e : Bool) : dYr (.agg [BM a, BM b, BM c, BM d, xG e]) = ⟨⟨a, b⟩, ⟨c, d⟩, e⟩ := rfl
theorem y2 (a b c d : Int) (e : Bool) : dYr (.agg [.v (.int .i64 a), .v (.int .i64 b), .v (.int .i64 c), .v (.int .i64 d), .v (.bool e)]) = ⟨⟨a, b⟩, ⟨c, d⟩, e⟩ := rfl
theorem y4 (y : Yr) : Yr.mk y.i y.d y.sp = y := rfl
theorem y5 (y : Yr) : dYr (eYr y) = y := rfl
theorem s1 (s : Span) : Span.mk s.lo s.hi = s := rfl
theorem p1 (p : Pt) : Pt.mk p.x p.d = p := rfl
theorem b1 (b : Bd) : Bd.mk b.t b.c = b := rfl
theorem p2 (p : Pt) : dPt (ePt p) = p := rfl
theorem p3 (a b : Int) : dPt (.agg [BM a, BM b]) = ⟨a, b⟩ := rfl
end Go.Bal.DL
namespace Go.Bal
open Go Go.Sym Go.Proofs
def pD {α : Type} (dec : List AVal -> Option α) (val : α -> AVal) (pre : α -> List Prop := λ _ => []) : Sym.Spec := uY λ xs => match dec xs with
 | some a => some (val a, pre a)
 | none => none
theorem JO {α : Type} {g : FuncId} {dec : List AVal -> Option α} {val : α -> AVal} {pre : α -> List Prop} (enc : α -> List AVal) (hde : ∀ xs a, dec xs = some a -> xs = enc a) (h : ∀ a, BG (pre a) -> FnT Try.prog g (enc a) (AK []) (val a) []) : AR Try.prog g (pD dec val pre) := ABG λ xs v p hf hp => by
 split at hf
 ·rename_i a ha
  cases hf
  rw [hde xs a ha]; exact h a hp
 ·cases hf
def dI1 : List AVal -> Option Int
 | [.d (.v (.int .i64 a))] => some a
 | _ => none
def xI1 (a : Int) : List AVal := [.int a]
theorem hI1 (xs : List AVal) (a : Int) (h : dI1 xs = some a) : xs = xI1 a := by
 unfold dI1 at h; split at h <;> cases h; rfl
structure I2 where
 a : Int
 b : Int
structure I3 where
 a : Int
 b : Int
 c : Int
def dI2 : List AVal -> Option I2
 | [.d (.v (.int .i64 a)), .d (.v (.int .i64 b))] => some ⟨a, b⟩
 | _ => none
def xI2 (x : I2) : List AVal := [.int x.a, .int x.b]
theorem hI2 (xs : List AVal) (a : I2) (h : dI2 xs = some a) : xs = xI2 a := by
 unfold dI2 at h; split at h <;> cases h; rfl
def dI3 : List AVal -> Option I3
 | [.d (.v (.int .i64 a)), .d (.v (.int .i64 b)), .d (.v (.int .i64 c))] => some ⟨a, b, c⟩
 | _ => none
def xI3 (x : I3) : List AVal := [.int x.a, .int x.b, .int x.c]
theorem hI3 (xs : List AVal) (a : I3) (h : dI3 xs = some a) : xs = xI3 a := by
 unfold dI3 at h; split at h <;> cases h; rfl
def dS1 : List AVal -> Option Span
 | [.d (.agg [.v (.int .i64 a), .v (.int .i64 b)])] => some ⟨a, b⟩
 | _ => none
def xS1 (g : Span) : List AVal := [.d (Ff g)]
theorem hS1 (xs : List AVal) (a : Span) (h : dS1 xs = some a) : xs = xS1 a := by
 unfold dS1 at h; split at h <;> cases h; rfl
def dP1 : List AVal -> Option Pt
 | [.d (.agg [.v (.int .i64 a), .v (.int .i64 b)])] => some ⟨a, b⟩
 | _ => none
def xP1 (g : Pt) : List AVal := [.d (ePt g)]
theorem hP1 (xs : List AVal) (a : Pt) (h : dP1 xs = some a) : xs = xP1 a := by
 unfold dP1 at h; split at h <;> cases h; rfl
def dY1 : List AVal -> Option Yr
 | [.d (.agg [.v (.int .i64 a), .v (.int .i64 b), .v (.int .i64 c), .v (.int .i64 d), .v (.bool e)])] => some ⟨⟨a, b⟩, ⟨c, d⟩, e⟩
 | _ => none
def xY1 (g : Yr) : List AVal := [.d (eYr g)]
theorem hY1 (xs : List AVal) (a : Yr) (h : dY1 xs = some a) : xs = xY1 a := by
 unfold dY1 at h; split at h <;> cases h; rfl
def wr (n : Int) : Int := IntKind.i64.wrap n
def HO (a b c : Int) : Bool := decide (b <= a) && decide (a <= c)
def FW (n : Int) : Bool := HO n 0 1000000000
def JF (s : Span) : Bool := HO s.lo 0 s.hi && FW s.hi
def Fe (p : Pt) : Bool := FW p.x && FW p.d
def YQ (y : Yr) : Bool := JF y.i && JF y.d
def AWF (x : I3) : Prop := BB Try.prog (ann 15 []) ARP (AS ARP) (xI3 x) (AK []) (.bool (HO x.a x.b x.c)) [] [] []
theorem BAY (x : I3) : (AWF x) = (HO x.a x.b x.c = bif decide (x.a >= x.b) then decide (x.a <= x.c) else false) := by kernel_rfl
def WB := pD dI3 λ x => .bool (HO x.a x.b x.c)
def AVJ (x : I3) : Prop := BB Try.prog (ann 15 []) AQH (AS AQH) (xI3 x) (AK []) (.bool (HO x.a x.b x.c)) [] [] []
theorem BCK (x : I3) : (AVJ x) = (HO x.a x.b x.c = bif decide (x.a >= x.b) then decide (x.a <= x.c) else false) := by kernel_rfl
def AXF (x : I3) : Prop := BB Try.prog (ann 15 []) ARS (AS ARS) (xI3 x) (AK []) (.bool (HO x.a x.b x.c)) [] [] []
theorem BCE (x : I3) : (AXF x) = (HO x.a x.b x.c = bif decide (x.a >= x.b) then decide (x.a <= x.c) else false) := by kernel_rfl
theorem Nx : AR Try.prog Ar WB := JO xI3 hI3 λ x _ => JK (A := ann 15 []) (ren := []) (fz := []) BBN (by kernel_rfl) AM (by
 show AWF x; rw [BAY]; unfold HO; by_cases h : x.b <= x.a <;> simp [h])
theorem K7 : AR Try.prog xL WB := JO xI3 hI3 λ x _ => JK (A := ann 15 []) (ren := []) (fz := []) AZS (by kernel_rfl) AM (by
 show AVJ x; rw [BCK]; unfold HO; by_cases h : x.b <= x.a <;> simp [h])
theorem I6 : AR Try.prog ABF WB := JO xI3 hI3 λ x _ => JK (A := ann 15 []) (ren := []) (fz := []) BCR (by kernel_rfl) AM (by
 show AXF x; rw [BCE]; unfold HO; by_cases h : x.b <= x.a <;> simp [h])
def AJC (x : Int) : Prop := BB Try.prog (ann 5 [(Ar, WB)]) S4 (AS S4) (xI1 x) (AK []) (.bool (FW x)) [] [] []
theorem APY (x : Int) : (AJC x) = (FW x = HO x 0 1000000000) := by kernel_rfl
def lY := pD dI1 λ x => .bool (FW x)
theorem uC : AR Try.prog Xu lY := JO xI1 hI1 λ x _ => JK (A := ann 5 [(Ar, WB)]) (ren := []) (fz := []) AQF (by kernel_rfl) (AH Nx AM) (by
 show AJC x; rw [APY]; unfold FW; simp)
def ABL : Ann := ann 13 [(Ar, WB), (Xu, lY)]
def Y5 (x : Span) : Prop := BB Try.prog ABL nO (AS nO) (xS1 x) (AK []) (.bool (JF x)) [] [] []
theorem AKM (x : Span) : (Y5 x) = (JF x = bif HO x.lo 0 x.hi then FW x.hi else false) := by kernel_rfl
def AAY := pD dS1 λ x => .bool (JF x)
theorem AKN : AR Try.prog pW AAY := JO xS1 hS1 λ x _ => JK (A := ABL) (ren := []) (fz := []) AJO (by kernel_rfl) (AH Nx (AH uC AM)) (by
 show Y5 x; rw [AKM]; unfold JF; cases HO x.lo 0 x.hi <;> simp)
def ASG : Ann := ann 11 [(Xu, lY)]
def AOR (x : Pt) : Prop := BB Try.prog ASG ADR (AS ADR) (xP1 x) (AK []) (.bool (Fe x)) [] [] []
theorem ATM (x : Pt) : (AOR x) = (Fe x = bif FW x.x then FW x.d else false) := by kernel_rfl
def APW := pD dP1 λ x => .bool (Fe x)
def AHD : Ann := ann 11 [(pW, AAY)]
def AHP (x : Yr) : Prop := BB Try.prog AHD I7 (AS I7) (xY1 x) (AK []) (.bool (YQ x)) [] [] []
theorem ANO (x : Yr) : (AHP x) = (YQ x = bif JF x.i then JF x.d else false) := by kernel_rfl
def AHR := pD dY1 λ x => .bool (YQ x)
theorem ATI : AR Try.prog W5 APW := JO xP1 hP1 λ x _ => JK (A := ASG) (ren := []) (fz := []) AUW (by kernel_rfl) (AH uC AM) (by
 show AOR x; rw [ATM]; unfold Fe; cases FW x.x <;> simp)
theorem ALH : AR Try.prog iU AHR := JO xY1 hY1 λ x _ => JK (A := AHD) (ren := []) (fz := []) ALV (by kernel_rfl) (AH AKN AM) (by
 show AHP x; rw [ANO]; unfold YQ; cases JF x.i <;> simp)
def ASE (x : Span) : Prop := BB Try.prog (ann 5 []) ADI (AS ADI) (xS1 x) (AK []) (.int x.lo) [] [] []
theorem AVB (x : Span) : (ASE x) = (x.lo = x.lo) := by kernel_rfl
def ARE (x : Span) : Prop := BB Try.prog (ann 5 []) ADV (AS ADV) (xS1 x) (AK []) (.int x.hi) [] [] []
theorem ATE (x : Span) : (ARE x) = (x.hi = x.hi) := by kernel_rfl
def AHN (x : Span) : Prop := BB Try.prog (ann 5 []) zX (AS zX) (xS1 x) (AK []) (.int x.hi) [] [] []
theorem ANN (x : Span) : (AHN x) = (x.hi = x.hi) := by kernel_rfl
def AIS (x : Span) : Prop := BB Try.prog (ann 5 []) O2 (AS O2) (xS1 x) (AK []) (.int x.lo) [] [] []
theorem AOY (x : Span) : (AIS x) = (x.lo = x.lo) := by kernel_rfl
def s_lo := pD dS1 λ x => .int x.lo
def s_hi := pD dS1 λ x => .int x.hi
def AYJ (x : One) : Prop := BB Try.prog (ann 2 []) AMN (AS AMN) [] (AK []) (.agg [.fn (.func Yk) [] [], .fn (.func fF) [] []]) [] [] []
theorem BCJ (x : One) : (AYJ x) = (True) := by kernel_rfl
def ALB (x : One) : Prop := BB Try.prog (ann 2 []) ADD (AS ADD) [] (AK []) (.agg [.fn (.func Ca) [] [], .fn (.func Bs) [] []]) [] [] []
theorem ATC (x : One) : (ALB x) = (True) := by kernel_rfl
def C_low : Ctr := { α := One, xs := λ _ => [], L := λ _ => [], val := λ _ => .agg [.fn (.func Yk) [] [], .fn (.func fF) [] []], keep := λ _ => [] }
def C_high : Ctr := { α := One, xs := λ _ => [], L := λ _ => [], val := λ _ => .agg [.fn (.func Ca) [] [], .fn (.func Bs) [] []], keep := λ _ => [] }
def AHO : List AVal -> Heap -> Option (One × List (Nat × Nat) × List Nat)
 | [], _ => some (default, [], [])
 | _, _ => none
def ANY : Ann := ann 8 []
def ARH (x : I2) : Prop := BB Try.prog ANY ADC (AS ADC) (xI2 x) (AK []) (.d (Ff ⟨x.a, x.b⟩)) [] [] []
theorem ATA (x : I2) : (ARH x) = (x.a = x.a /\ x.b = x.b) := by kernel_rfl
def ANE := pD dI2 λ x => .d (Ff ⟨x.a, x.b⟩)
theorem ASV : AR Try.prog Yk s_lo := JO xS1 hS1 λ x _ => JK (A := ann 5 []) (ren := []) (fz := []) ASL (by kernel_rfl) AM (by show ASE x; rw [AVB])
theorem ATW : AR Try.prog fF s_hi := JO xS1 hS1 λ x _ => JK (A := ann 5 []) (ren := []) (fz := []) AUG (by kernel_rfl) AM (by show ARE x; rw [ATE])
theorem AOK : AR Try.prog Ca s_hi := JO xS1 hS1 λ x _ => JK (A := ann 5 []) (ren := []) (fz := []) ANI (by kernel_rfl) AM (by show AHN x; rw [ANN])
theorem ANK : AR Try.prog Bs s_lo := JO xS1 hS1 λ x _ => JK (A := ann 5 []) (ren := []) (fz := []) APU (by kernel_rfl) AM (by show AIS x; rw [AOY])
theorem BBW : AR Try.prog AOA (C_low.spec AHO) := EX C_low (λ _ => ann 2 []) [] [] BAE (λ _ => by kernel_rfl) (λ _ => AM) (λ (x : One) _ => by show AYJ x; rw [BCJ]; trivial) (λ _ => FK rfl rfl) _
theorem ATY : AR Try.prog ACG (C_high.spec AHO) := EX C_high (λ _ => ann 2 []) [] [] ASY (λ _ => by kernel_rfl) (λ _ => AM) (λ (x : One) _ => by show ALB x; rw [ATC]; trivial) (λ _ => FK rfl rfl) _
theorem AUV : AR Try.prog AFO ANE := JO xI2 hI2 λ x _ => JK (A := ANY) (ren := []) (fz := []) ASI (by kernel_rfl) AM (by show ARH x; rw [ATA]; trivial)
end Go.Bal
