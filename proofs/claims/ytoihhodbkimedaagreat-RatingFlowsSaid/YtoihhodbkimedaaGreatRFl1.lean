/- Package rating: the reference: threes, pairs. -/
import Derived.Test.YtoihhodbkimedaaGreatRLn2
import Derived.Test.YtoihhodbkimedaaGreatRF1
set_option linter.unusedVariables false
set_option linter.unusedSimpArgs false
namespace Go.Bal
open Go Go.Sym Go.Proofs
structure G3 where
 a : Gau
 b : Gau
 c : Gau
def dG3 : List AVal -> Option G3
 | [.d (.agg [.v (.int .i64 a), .v (.int .i64 b), .v (.int .i64 c)]), .d (.agg [.v (.int .i64 d), .v (.int .i64 e), .v (.int .i64 f)]), .d (.agg [.v (.int .i64 g), .v (.int .i64 h), .v (.int .i64 i)])] => some ⟨⟨a, b, c⟩, ⟨d, e, f⟩, ⟨g, h, i⟩⟩
 | _ => none
def xG3 (x : G3) : List AVal := [.d (WG x.a), .d (WG x.b), .d (WG x.c)]
theorem hG3 (xs : List AVal) (a : G3) (h : dG3 xs = some a) : xs = xG3 a := by
 unfold dG3 at h; split at h <;> cases h; rfl
def CFU := pD dG3 (λ x => .bool (KX x.a x.b x.c)) λ x => [DJ x.a /\ DJ x.b /\ DJ x.c]
def CEN (x : G3) : Prop := AN Try.prog (ann 166 []) BSE (AF BSE) (xG3 x) (AC []) (.bool (KX x.a x.b x.c)) [] [] []
abbrev SU (x : G3) : Bool := x.a.st == x.c.st
abbrev Kq (x : G3) : Int := EY x.c.lo (EY x.a.lo x.b.lo)
abbrev Ac (x : G3) : Int := HZ x.c.hi (HZ x.a.hi x.b.hi)
abbrev AWD (x : G3) : Bool := decide (EY x.a.lo x.b.lo > HZ x.a.hi x.b.hi)
abbrev Lh (x : G3) : Prop := KX x.a x.b x.c = false
abbrev AVI (x : G3) : Bool := bif x.c.st == x.a.st then true else x.c.st == x.c.st
abbrev Me (x : G3) : Prop := KX x.a x.b x.c = true
abbrev Kv (x : G3) : Int := IntKind.i64.wrap (x.c.st - x.c.st)
abbrev HD (x : G3) : Int := IntKind.i64.wrap (x.c.st - x.a.st)
abbrev ARC (x : G3) : Int := IntKind.i64.wrap (Ac x * HD x)
abbrev I6 (x : G3) : Prop := KX x.a x.b x.c = decide (x.c.lo <= x.c.hi)
abbrev AAQ (x : G3) : Bool := decide (x.c.lo > x.c.hi)
abbrev AAM (x : G3) : Int := IntKind.i64.wrap (EY x.a.lo x.b.lo * HD x)
abbrev Z1 (x : G3) : Int := IntKind.i64.wrap (x.a.st - x.a.st)
abbrev ADB (x : G3) : Bool := x.b.st == x.c.st
abbrev G4 (x : G3) : Bool := decide (x.a.lo > x.a.hi)
abbrev F7 (x : G3) : Int := IntKind.i64.wrap (HZ x.c.hi x.b.hi * HD x)
abbrev K9 (x : G3) : Int := IntKind.i64.wrap (x.c.st - x.b.st)
abbrev J4 (x : G3) : Int := IntKind.i64.wrap (x.b.st - x.a.st)
theorem CMQ (x : G3) : (CEN x) = (bif x.a.st == x.b.st then bif SU x then bif SU x then KX x.a x.b x.c = decide (Kq x <= Ac x) else bif bif bif AWD x then true else decide (Kq x
 > Ac x) then true else decide (EY x.a.lo x.b.lo > Ac x) then Lh x else bif AVI x then Me x else KX x.a x.b x.c = bif decide (IntKind.i64.wrap (IntKind.i64.wrap (EY x.a.lo x.b.lo *
 Kv x) + IntKind.i64.wrap (EY (EY x.a.lo x.b.lo) (Kq x) * HD x)) <= ARC x) then decide (IntKind.i64.wrap (IntKind.i64.wrap (HZ (HZ x.a.hi x.b.hi) (Ac x) * Kv x) + ARC x) >=
 IntKind.i64.wrap (Kq x * HD x)) else false else bif SU x then I6 x else bif bif bif AWD x then true else AAQ x then true else decide (EY x.a.lo x.b.lo > x.c.hi) then Lh x else
 bif bif x.a.st == x.a.st then true else SU x then Me x else KX x.a x.b x.c = bif decide (IntKind.i64.wrap (AAM x + IntKind.i64.wrap (EY (EY x.a.lo x.b.lo) x.c.lo * Z1 x)) <= IntKind.i64.wrap
 (HZ x.a.hi x.b.hi * HD x)) then decide (IntKind.i64.wrap (IntKind.i64.wrap (HZ (HZ x.a.hi x.b.hi) x.c.hi * HD x) + IntKind.i64.wrap (x.c.hi * Z1 x)) >= AAM x) else false else bif ADB x
 then bif SU x then KX x.a x.b x.c = decide (EY x.c.lo x.b.lo <= HZ x.c.hi x.b.hi) else bif bif bif G4 x then true else decide (EY x.c.lo x.b.lo > HZ x.c.hi x.b.hi) then true else decide (x.a.lo >
 HZ x.c.hi x.b.hi) then Lh x else bif AVI x then Me x else KX x.a x.b x.c = bif decide (IntKind.i64.wrap (IntKind.i64.wrap (x.a.lo * Kv x) + IntKind.i64.wrap (EY x.a.lo (EY x.c.lo x.b.lo) *
 HD x)) <= F7 x) then decide (IntKind.i64.wrap (IntKind.i64.wrap (HZ x.a.hi (HZ x.c.hi x.b.hi) * Kv x) + F7 x) >= IntKind.i64.wrap (EY x.c.lo x.b.lo * HD x)) else false else bif
 SU x then I6 x else bif bif bif G4 x then true else AAQ x then true else decide (x.a.lo > x.c.hi) then Lh x else bif bif x.b.st == x.a.st then true else ADB x then Me x else
 KX x.a x.b x.c = bif decide (IntKind.i64.wrap (IntKind.i64.wrap (x.a.lo * K9 x) + IntKind.i64.wrap (EY x.a.lo x.c.lo * J4 x)) <= IntKind.i64.wrap (x.b.hi * HD x)) then decide (IntKind.i64.wrap
 (IntKind.i64.wrap (HZ x.a.hi x.c.hi * K9 x) + IntKind.i64.wrap (x.c.hi * J4 x)) >= IntKind.i64.wrap (x.b.lo * HD x)) else false) := by kernel_rfl
structure BeA where
 a : Int
 b : Int
 v : Int
 w : Int
 t : Int
def dBeA : List AVal -> Option BeA
 | [.d (.v (.int .i64 a)), .d (.v (.int .i64 b)), .d (.v (.int .i64 v)), .d (.v (.int .i64 w)), .d (.v (.int .i64 t))] => some ⟨a, b, v, w, t⟩
 | _ => none
def xBeA (x : BeA) : List AVal := [.int x.a, .int x.b, .int x.v, .int x.w, .int x.t]
theorem hBeA (xs : List AVal) (a : BeA) (h : dBeA xs = some a) : xs = xBeA a := by
 unfold dBeA at h; split at h <;> cases h; rfl
def Li (x : BeA) : Rt := FD (x.v * (x.b - x.t) + x.w * (x.t - x.a)) (x.b - x.a)
def BPE := pD dBeA (λ x => .d (xQ (Li x))) λ x => [(0 <= x.a /\ x.a < x.b /\ x.b <= 2000) /\ (0 <= x.v /\ x.v <= 200000) /\ (0 <= x.w /\ x.w <= 200000) /\ 0 <= x.t /\ x.t <= 2000]
def CBF (x : BeA) : Prop := AN Try.prog (ann 26 [(aC, OX)]) BPK (AF BPK) (xBeA x) (AC []) (.d (xQ (Li x))) [] [] []
theorem CNW (x : BeA) : (CBF x) = ((0 < IntKind.i64.wrap (x.b - x.a) /\ IntKind.i64.wrap (x.b - x.a) <= 2305843009213693952 /\ -2305843009213693952 <= IntKind.i64.wrap (IntKind.i64.wrap (x.v * IntKind.i64.wrap (x.b -
 x.t)) + IntKind.i64.wrap (x.w * IntKind.i64.wrap (x.t - x.a))) /\ IntKind.i64.wrap (IntKind.i64.wrap (x.v * IntKind.i64.wrap (x.b - x.t)) + IntKind.i64.wrap (x.w * IntKind.i64.wrap (x.t - x.a))) <= 2305843009213693952) /\
 (Li x).n = (FD (IntKind.i64.wrap (IntKind.i64.wrap (x.v * IntKind.i64.wrap (x.b - x.t)) + IntKind.i64.wrap (x.w * IntKind.i64.wrap (x.t - x.a)))) (IntKind.i64.wrap (x.b - x.a))).n /\ (Li x).d = (FD
 (IntKind.i64.wrap (IntKind.i64.wrap (x.v * IntKind.i64.wrap (x.b - x.t)) + IntKind.i64.wrap (x.w * IntKind.i64.wrap (x.t - x.a)))) (IntKind.i64.wrap (x.b - x.a))).d) := by kernel_rfl
structure PrA where
 a : Gau
 b : Gau
 t : Int
def dPrA : List AVal -> Option PrA
 | [.d (.agg [.v (.int .i64 a), .v (.int .i64 b), .v (.int .i64 c)]), .d (.agg [.v (.int .i64 d), .v (.int .i64 e), .v (.int .i64 f)]), .d (.v (.int .i64 t))] => some ⟨⟨a, b, c⟩, ⟨d, e, f⟩, t⟩
 | _ => none
def xPrA (x : PrA) : List AVal := [.d (WG x.a), .d (WG x.b), .int x.t]
theorem hPrA (xs : List AVal) (a : PrA) (h : dPrA xs = some a) : xs = xPrA a := by
 unfold dPrA at h; split at h <;> cases h; rfl
def BUT := pD dPrA (λ x => .tup [.d (xQ (WE x.a x.b x.t)), .d (xQ (WH x.a x.b x.t))]) λ x => [DJ x.a /\ DJ x.b /\ x.a.st < x.b.st /\ 0 <= x.t /\ x.t <= 2000]
def BXG (x : PrA) : Prop := AN Try.prog (ann 96 [(BFA, BPE)]) BGT (AF BGT) (xPrA x) (AC []) (.tup [.d (xQ (WE x.a x.b x.t)), .d (xQ (WH x.a x.b x.t))]) [] [] []
theorem CDE (x : PrA) : (BXG x) = (bif decide (x.t >= x.b.st) then (((0 <= x.a.st /\ x.a.st < x.b.st /\ x.b.st <= 2000) /\ (0 <= HZ x.a.hi (EY x.a.lo x.b.lo) /\ HZ x.a.hi (EY x.a.lo x.b.lo) <= 200000) /\ (0 <= EY
 x.a.lo x.b.lo /\ EY x.a.lo x.b.lo <= 200000) /\ 0 <= x.t /\ x.t <= 2000) /\ (0 <= x.a.st /\ x.a.st < x.b.st /\ x.b.st <= 2000) /\ (0 <= x.a.lo /\ x.a.lo <= 200000) /\ (0 <= x.b.hi /\ x.b.hi <= 200000) /\ 0 <= x.t /\ x.t <= 2000) /\ (WE x.a
 x.b x.t).n = (Li (BeA.mk x.a.st x.b.st (HZ x.a.hi (EY x.a.lo x.b.lo)) (EY x.a.lo x.b.lo) x.t)).n /\ (WE x.a x.b x.t).d = (Li (BeA.mk x.a.st x.b.st (HZ x.a.hi (EY x.a.lo x.b.lo)) (EY x.a.lo x.b.lo)
 x.t)).d /\ (WH x.a x.b x.t).n = (Li (BeA.mk x.a.st x.b.st x.a.lo x.b.hi x.t)).n /\ (WH x.a x.b x.t).d = (Li (BeA.mk x.a.st x.b.st x.a.lo x.b.hi x.t)).d else bif decide (x.t <= x.a.st) then (((0 <= x.a.st /\ x.a.st <
 x.b.st /\ x.b.st <= 2000) /\ (0 <= x.a.lo /\ x.a.lo <= 200000) /\ (0 <= x.b.hi /\ x.b.hi <= 200000) /\ 0 <= x.t /\ x.t <= 2000) /\ (0 <= x.a.st /\ x.a.st < x.b.st /\ x.b.st <= 2000) /\ (0 <= HZ x.a.hi x.b.hi /\ HZ x.a.hi x.b.hi <= 200000)
 /\ (0 <= EY (HZ x.a.hi x.b.hi) x.b.lo /\ EY (HZ x.a.hi x.b.hi) x.b.lo <= 200000) /\ 0 <= x.t /\ x.t <= 2000) /\ (WE x.a x.b x.t).n = (Li (BeA.mk x.a.st x.b.st x.a.lo x.b.hi x.t)).n /\ (WE x.a x.b x.t).d = (Li
 (BeA.mk x.a.st x.b.st x.a.lo x.b.hi x.t)).d /\ (WH x.a x.b x.t).n = (Li (BeA.mk x.a.st x.b.st (HZ x.a.hi x.b.hi) (EY (HZ x.a.hi x.b.hi) x.b.lo) x.t)).n /\ (WH x.a x.b x.t).d = (Li (BeA.mk x.a.st x.b.st (HZ
 x.a.hi x.b.hi) (EY (HZ x.a.hi x.b.hi) x.b.lo) x.t)).d else (((0 <= x.a.st /\ x.a.st < x.b.st /\ x.b.st <= 2000) /\ (0 <= x.a.lo /\ x.a.lo <= 200000) /\ (0 <= EY x.a.lo x.b.lo /\ EY x.a.lo x.b.lo <= 200000) /\ 0 <= x.t /\ x.t <=
 2000) /\ (0 <= x.a.st /\ x.a.st < x.b.st /\ x.b.st <= 2000) /\ (0 <= HZ x.a.hi x.b.hi /\ HZ x.a.hi x.b.hi <= 200000) /\ (0 <= x.b.hi /\ x.b.hi <= 200000) /\ 0 <= x.t /\ x.t <= 2000) /\ (WE x.a x.b x.t).n = (Li (BeA.mk x.a.st
 x.b.st x.a.lo (EY x.a.lo x.b.lo) x.t)).n /\ (WE x.a x.b x.t).d = (Li (BeA.mk x.a.st x.b.st x.a.lo (EY x.a.lo x.b.lo) x.t)).d /\ (WH x.a x.b x.t).n = (Li (BeA.mk x.a.st x.b.st (HZ x.a.hi x.b.hi) x.b.hi x.t)).n
 /\ (WH x.a x.b x.t).d = (Li (BeA.mk x.a.st x.b.st (HZ x.a.hi x.b.hi) x.b.hi x.t)).d) := by kernel_rfl
def C_rAsk : Ctr := { α := GB, xs := xGB, val := λ x => .int (AH x), pre := λ x => [x.g.length < 1073741824 /\ x.b.length < 1073741824] }
def CHV (x : GB) : Prop := AN Try.prog (ann 13 [(tZ, C_rCheck.spec JM), (AHE, C_rBrok.spec dIs1)]) APD (AF APD) (xGB x) (AC []) (.int (AH x)) [] [] []
theorem CMP (x : GB) : (CHV x) = (((AE x.g.length λ (i : Nat) => gD x.g i).length = x.g.length /\ (∀ (i : Nat), i < (AE x.g.length λ (i : Nat) => gD x.g i).length -> (gD (AE x.g.length λ (i : Nat) => gD x.g
 i) i).st = (gD x.g i).st /\ (gD (AE x.g.length λ (i : Nat) => gD x.g i) i).lo = (gD x.g i).lo /\ (gD (AE x.g.length λ (i : Nat) => gD x.g i) i).hi = (gD x.g i).hi) /\ (AE x.g.length λ (i : Nat) => gD x.g i).length
 < 1073741824 /\ True) /\ bif AQ (AE x.g.length λ (i : Nat) => gD x.g i) != 0 then AH x = AQ (AE x.g.length λ (i : Nat) => gD x.g i) else ((AE x.b.length λ (i : Nat) => gD x.b i).length = x.b.length /\ (∀
 (i : Nat), i < (AE x.b.length λ (i : Nat) => gD x.b i).length -> gD (AE x.b.length λ (i : Nat) => gD x.b i) i = gD x.b i) /\ (AE x.b.length λ (i : Nat) => gD x.b i).length < 1073741824 /\ True) /\ AH x = DQ
 (AE x.b.length λ (i : Nat) => gD x.b i)) := by kernel_rfl
theorem BWN (a b : Int) : EY a b = max a b := by unfold EY; split <;> omega
theorem BTX (a b : Int) : HZ a b = min a b := by unfold HZ; split <;> omega
theorem fR {v d : Int} (hv : 0 <= v /\ v <= 200000) (hd : -2000 <= d /\ d <= 2000) : -400000000 <= v * d /\ v * d <= 400000000 := by
 have e1 := Int.mul_le_mul_of_nonneg_left hd.1 hv.1
 have e2 := Int.mul_le_mul_of_nonneg_left hd.2 hv.1
 omega
theorem AFJ {v d : Int} (hv : 0 <= v /\ v <= 200000) (hd : -2000 <= d /\ d <= 2000) : IntKind.i64.wrap (v * d) = v * d := by
 have := fR hv hd
 exact EV (by omega) (by omega)
theorem CIL {a b c : Gau} (ha : DJ a) (hb : DJ b) (hc : DJ c) (h1 : (a.st == b.st) = false) (h2 : (b.st == c.st) = false) (h3 : (a.st == c.st) = false) (h4 : (bif bif decide (a.lo > a.hi) then true else decide (c.lo > c.hi) then true else decide (a.lo > c.hi)) = false) (h5 : (bif b.st == a.st then true else b.st == c.st) = false) : KX a b c = bif decide (IntKind.i64.wrap (IntKind.i64.wrap (a.lo * IntKind.i64.wrap (c.st - b.st)) + IntKind.i64.wrap (max a.lo c.lo * IntKind.i64.wrap (b.st - a.st))) <= IntKind.i64.wrap (b.hi * IntKind.i64.wrap (c.st - a.st))) then decide (IntKind.i64.wrap (IntKind.i64.wrap (min a.hi c.hi * IntKind.i64.wrap (c.st - b.st)) + IntKind.i64.wrap (c.hi * IntKind.i64.wrap (b.st - a.st))) >= IntKind.i64.wrap (b.lo * IntKind.i64.wrap (c.st - a.st))) else false := by
 obtain ⟨a1, a2, a3, a4, a5⟩ := ha
 obtain ⟨b1, b2, b3, b4, b5⟩ := hb
 obtain ⟨c1, c2, c3, c4, c5⟩ := hc
 rw [show IntKind.i64.wrap (c.st - b.st) = c.st - b.st from EV (by omega) (by omega), show IntKind.i64.wrap (b.st - a.st) = b.st - a.st from EV (by omega) (by omega), show IntKind.i64.wrap (c.st - a.st) = c.st - a.st from EV (by omega) (by omega)]
 rw [AFJ (v := a.lo) (d := c.st - b.st) (by omega) (by omega), AFJ (v := max a.lo c.lo) (d := b.st - a.st) (by omega) (by omega), AFJ (v := b.hi) (d := c.st - a.st) (by omega) (by omega), AFJ (v := min a.hi c.hi) (d := c.st - b.st) (by omega) (by omega), AFJ (v := c.hi) (d := b.st - a.st) (by omega) (by omega), AFJ (v := b.lo) (d := c.st - a.st) (by omega) (by omega)]
 have m1 := fR (v := a.lo) (d := c.st - b.st) (by omega) (by omega)
 have m2 := fR (v := max a.lo c.lo) (d := b.st - a.st) (by omega) (by omega)
 have m3 := fR (v := min a.hi c.hi) (d := c.st - b.st) (by omega) (by omega)
 have m4 := fR (v := c.hi) (d := b.st - a.st) (by omega) (by omega)
 rw [EV (n := a.lo * (c.st - b.st) + max a.lo c.lo * (b.st - a.st)) (by omega) (by omega), EV (n := min a.hi c.hi * (c.st - b.st) + c.hi * (b.st - a.st)) (by omega) (by omega)]
 unfold KX thrA thrB ZT O3 kM
 rw [h2] at h5
 simp only [h1, h2, h3, cond_false, h4, h5]
theorem CMX : AG Try.prog BQW CFU := EL xG3 hG3 λ x h => KZ (A := ann 166 []) (ren := []) (fz := []) CLK (by kernel_rfl) AD (by
 show CEN x; rw [CMQ]; delta SU Kq Ac AWD Lh AVI Me Kv HD ARC I6 AAQ AAM Z1 ADB G4 F7 K9 J4; simp only [CC, eq_self, implies_true, forall_const, BWN, BTX]
 obtain ⟨ha, hb, hc⟩ : DJ x.a /\ DJ x.b /\ DJ x.c := h
 refine ⟨λ h1 => ⟨λ h2 => ⟨λ h3 => ?_, λ h3 => (by rw [h2] at h3; cases h3)⟩, λ h2 => ⟨λ h3 => (by rw [h2] at h3; cases h3), λ _ => ⟨λ h4 => ?_, λ h4 => ?_⟩⟩⟩, λ h1 => ⟨λ h2 => ⟨λ h3 => ?_, λ h3 => ⟨λ h4 => ?_, λ h4 => ⟨λ h5 => ?_, λ h5 => ?_⟩⟩⟩, λ h2 => ⟨λ h3 => ?_, λ h3 => ⟨λ h4 => ?_, λ h4 => ⟨λ h5 => ?_, λ h5 => ?_⟩⟩⟩⟩⟩
 ·unfold KX thrA thrB ZT O3 kM IH; simp only [h1, h2, cond_true, cond_false]
 ·unfold KX thrA thrB ZT O3 kM IH; simp only [h1, h2, cond_true, cond_false]; simp only [h2, cond_true, cond_false, h4]
 ·unfold KX thrA thrB ZT O3 kM IH; simp only [h1, h2, cond_true, cond_false, beq_self_eq_true]; simp only [h2, cond_true, cond_false, h4]; exact ⟨λ _ => trivial, λ h => (by cases h)⟩
 ·unfold KX thrA thrB ZT O3 kM IH; simp only [h1, h2, cond_true, cond_false]; simp only [h3, cond_true, cond_false]
 ·unfold KX thrA thrB ZT O3 kM IH; simp only [h1, h2, cond_true, cond_false]; simp only [h3, h4, cond_true, cond_false]
 ·unfold KX thrA thrB ZT O3 kM IH; simp only [h1, h2, cond_true, cond_false]; simp only [h3, h4, h5, cond_true, cond_false]
 ·simp at h5
 ·unfold KX thrA thrB ZT O3 kM IH; simp only [h1, h2, cond_true, cond_false]; simp only [h3, cond_true, cond_false]
 ·unfold KX thrA thrB ZT O3 kM IH; simp only [h1, h2, cond_true, cond_false]; simp only [h3, h4, cond_true, cond_false]
 ·rw [h2] at h5; unfold KX thrA thrB ZT O3 kM IH; simp only [h1, h2, cond_true, cond_false]; simp only [h3, h4, h5, cond_true, cond_false]
 ·exact CIL ha hb hc h1 h2 h3 h4 h5)
theorem CJH : AG Try.prog BFA BPE := EL xBeA hBeA λ x h => KZ (A := ann 26 [(aC, OX)]) (ren := []) (fz := []) CNT (by kernel_rfl) (AB BHM AD) (by
 show CBF x; rw [CNW]
 obtain ⟨⟨h1, h2, h3⟩, h4, h5, h6⟩ : (0 <= x.a /\ x.a < x.b /\ x.b <= 2000) /\ (0 <= x.v /\ x.v <= 200000) /\ (0 <= x.w /\ x.w <= 200000) /\ 0 <= x.t /\ x.t <= 2000 := h
 rw [show IntKind.i64.wrap (x.b - x.a) = x.b - x.a from EV (by omega) (by omega), show IntKind.i64.wrap (x.b - x.t) = x.b - x.t from EV (by omega) (by omega), show IntKind.i64.wrap (x.t - x.a) = x.t - x.a from EV (by omega) (by omega)]
 rw [AFJ (v := x.v) (d := x.b - x.t) h4 (by omega), AFJ (v := x.w) (d := x.t - x.a) h5 (by omega)]
 have m1 := fR (v := x.v) (d := x.b - x.t) h4 (by omega)
 have m2 := fR (v := x.w) (d := x.t - x.a) h5 (by omega)
 rw [EV (n := x.v * (x.b - x.t) + x.w * (x.t - x.a)) (by omega) (by omega)]
 exact ⟨⟨by omega, by omega, by omega, by omega⟩, rfl, rfl⟩)
theorem CEL : AG Try.prog BJN BUT := EL xPrA hPrA λ x h => KZ (A := ann 96 [(BFA, BPE)]) (ren := []) (fz := []) CHY (by kernel_rfl) (AB CJH AD) (by
 show BXG x; rw [CDE]; simp only [CC, eq_self, implies_true, forall_const, BWN, BTX]
 obtain ⟨⟨a1, a2, a3, a4, a5⟩, ⟨b1, b2, b3, b4, b5⟩, h1, h2⟩ : DJ x.a /\ DJ x.b /\ x.a.st < x.b.st /\ 0 <= x.t /\ x.t <= 2000 := h
 have e : ∀ {v w : Int}, Li (BeA.mk x.a.st x.b.st v w x.t) = FD (v * (x.b.st - x.t) + w * (x.t - x.a.st)) (x.b.st - x.a.st) := rfl
 refine ⟨λ c1 => ⟨⟨⟨⟨by omega, by omega, by omega⟩, by omega, by omega, h2⟩, ⟨by omega, by omega, by omega⟩, by omega, by omega, h2⟩, ?_⟩, λ c1 => ⟨λ c2 => ⟨⟨⟨⟨by omega, by omega, by omega⟩, by omega, by omega, h2⟩, ⟨by omega, by omega, by omega⟩, by omega, by omega, h2⟩, ?_⟩, λ c2 => ⟨⟨⟨⟨by omega, by omega, by omega⟩, by omega, by omega, h2⟩, ⟨by omega, by omega, by omega⟩, by omega, by omega, h2⟩, ?_⟩⟩⟩
 ·have c1 : x.b.st <= x.t := c1
  rw [e, e]; unfold WE WH loV loW hiV hiW
  rw [if_pos c1, if_pos c1, if_pos c1, if_pos c1]; exact ⟨rfl, rfl, rfl, rfl⟩
 ·have c1 : ¬x.b.st <= x.t := c1
  rw [e, e]; unfold WE WH loV loW hiV hiW
  rw [if_neg c1, if_neg c1, if_neg c1, if_neg c1, if_pos c2, if_pos c2, if_pos c2]; exact ⟨rfl, rfl, rfl, rfl⟩
 ·have c1 : ¬x.b.st <= x.t := c1
  rw [e, e]; unfold WE WH loV loW hiV hiW
  rw [if_neg c1, if_neg c1, if_neg c1, if_neg c1, if_neg c2, if_neg c2, if_neg c2]; exact ⟨rfl, rfl, rfl, rfl⟩)
theorem AGU : AG Try.prog ZC (C_rAsk.spec dGB) := HR C_rAsk (λ _ => ann 13 [(tZ, C_rCheck.spec JM), (AHE, C_rBrok.spec dIs1)]) [] [] BZK (λ _ => by kernel_rfl) (λ _ => AB BYH (AB CHN AD)) (λ (x : GB) h => by
 show CHV x; rw [CMP]; simp only [CC, eq_self, implies_true, forall_const]
 obtain ⟨h1, h2⟩ : x.g.length < 1073741824 /\ x.b.length < 1073741824 := h
 refine ⟨h1, λ hc => ?_, λ hc => ⟨h2, ?_⟩⟩
 ·unfold AH; rw [show (AQ x.g == 0) = false by simpa using hc]; rfl
 ·unfold AH; rw [show (AQ x.g == 0) = true by simpa using hc]; rfl) (λ _ => IN rfl rfl) _
end Go.Bal
