/- Package rating: below, sound, the examples of the chapter. -/
import Derived.Test.YtoihhodbkimedaaRatV
set_option linter.unusedVariables false
set_option linter.unusedSimpArgs false
namespace Go.Bal
open Go Go.Sym Go.Proofs
def belM (a b : Rt) : Bool := decide (wr (a.n * b.d) < wr (b.n * a.d))
def s_below := pD dR2 λ x => .bool (belM x.lo x.hi)
def V_below (a : Bnd) : Prop := fnVC Try.prog (ann 16 []) F_below (bodyOf F_below) (xR2 a) (heapOf []) (.bool (belM a.lo a.hi)) [] [] []
theorem vc_below (a : Bnd) : (V_below a) = (belM a.lo a.hi = decide (IntKind.i64.wrap (a.lo.n * a.hi.d) < IntKind.i64.wrap (a.hi.n * a.lo.d))) := by kernel_rfl
def dB1 : List AVal -> Option Bnd
 | [.d (.agg [.v (.int .i64 a), .v (.int .i64 b), .v (.int .i64 c), .v (.int .i64 d)])] => some ⟨⟨a, b⟩, ⟨c, d⟩⟩
 | _ => none
def xB1 (b : Bnd) : List AVal := [.d (eBnd b)]
def fsM (r : Rt) : Bool := !(decide (r.d < 1) || (decide (r.d > 2000) || (decide (r.n < 0) || decide (r.n > wr (200000 * r.d)))))
def sndM (b : Bnd) : Bool := fsM b.lo && (fsM b.hi && !belM b.hi b.lo)
def s_sound := pD dB1 λ b => .bool (sndM b)
def rtL (b : Bnd) : List Rt := [b.lo, b.hi]
def so2b (b : Bnd) : Shape := { α := Nat, dflt := 0, T := λ i => ⟨[(1, .bptr 1000 0), (9, .d (lst 2 2 λ i => eRt (gD (rtL b) i))), (10, .int 2), (11, .int i)], [(1000, .live (.box [.int b.lo.n, .int b.lo.d, .int b.hi.n, .int b.hi.d]))]⟩, inv := λ i => i <= 2 /\ (1 <= i -> fsM b.lo = true) /\ (2 <= i -> fsM b.hi = true), meas := λ i => 2 - i }
def A_sound (b : Bnd) : Ann := { ann 43 [(n_below, s_below)] with md := λ id => if id = 1 then some (λ k => if k = 4 then 4 else 0) else none, loops := λ id => if id = 2 then some [so2b b] else none }
def V_sound (b : Bnd) : Prop := fnVC Try.prog (A_sound b) F_sound (bodyOf F_sound) (xB1 b) (heapOf []) (.bool (sndM b)) [] [] []
theorem vc_sound (b : Bnd) : (V_sound b) = ((∃ (a : Nat), ((2 : Nat) = (2 : Nat) /\ (∀ (i : Nat), i < (2 : Nat) -> ((gD (rtL b) i).n = bif decide (i = (0 : Nat)) then b.lo.n else b.hi.n) /\ (gD (rtL b) i).d = bif decide (i
 = (0 : Nat)) then b.lo.d else b.hi.d) /\ Int.ofNat (2 : Nat) = Int.ofNat (2 : Nat) /\ (↑a : Int) = (0 : Int) /\ b.lo.n = b.lo.n /\ b.lo.d = b.lo.d /\ b.hi.n = b.hi.n /\ b.hi.d = b.hi.d) /\ a <= (2 : Nat) /\ ((1 : Nat) <= a -> fsM
 b.lo = true) /\ ((2 : Nat) <= a -> fsM b.hi = true)) /\ ∀ (a : Nat), a <= (2 : Nat) /\ ((1 : Nat) <= a -> fsM b.lo = true) /\ ((2 : Nat) <= a -> fsM b.hi = true) -> bif decide ((↑a : Int) < (2 : Int)) then ((0 : Int) <= (↑a : Int) /\
 (↑a : Int) < (↑(2 : Nat) : Int)) /\ bif bif bif bif decide ((gD (rtL b) a).d < (1 : Int)) then true else decide ((gD (rtL b) a).d > (2000 : Int)) then true else decide ((gD (rtL b) a).n < (0 : Int)) then true else decide
 ((gD (rtL b) a).n > IntKind.i64.wrap ((200000 : Int) * (gD (rtL b) a).d)) then sndM b = false else ∃ (a_2 : Nat), ((2 : Nat) = (2 : Nat) /\ (∀ (i : Nat), i < (2 : Nat) -> (gD (rtL b) i).n = (gD (rtL b) i).n /\ (gD (rtL b)
 i).d = (gD (rtL b) i).d) /\ Int.ofNat (2 : Nat) = Int.ofNat (2 : Nat) /\ (↑a_2 : Int) = IntKind.i64.wrap ((↑a : Int) + (1 : Int)) /\ b.lo.n = b.lo.n /\ b.lo.d = b.lo.d /\ b.hi.n = b.hi.n /\ b.hi.d = b.hi.d) /\ (a_2 <= (2 : Nat)
 /\ ((1 : Nat) <= a_2 -> fsM b.lo = true) /\ ((2 : Nat) <= a_2 -> fsM b.hi = true)) /\ (2 : Nat) - a_2 < (2 : Nat) - a else sndM b = !belM b.hi b.lo) := by kernel_rfl
def threeM (a b : Int) : List Gau := [⟨100, 10, 12⟩, ⟨200, 30, 32⟩, ⟨300, a, b⟩]
def s_Three := pD dI2 λ x => .d (eGaus (threeM x.a x.b))
def A_Three : Ann := { ann 14 [] with md := λ id => if id = 1 then some (λ k => if k = 8 then 4 else 0) else none }
def V_Three (x : I2) : Prop := fnVC Try.prog A_Three F_Three (bodyOf F_Three) (xI2 x) (heapOf []) (.d (eGaus (threeM x.a x.b))) [] [] []
theorem vc_Three (x : I2) : (V_Three x) = ((threeM x.a x.b).length = 3 /\ ∀ (i : Nat), i < (threeM x.a x.b).length -> ((gD (threeM x.a x.b) i).st = bif decide (i = 0) then 100 else bif decide (i - 1 = 0) then 200 else 300)
 /\ ((gD (threeM x.a x.b) i).lo = bif decide (i = 0) then 10 else bif decide (i - 1 = 0) then 30 else x.a) /\ (gD (threeM x.a x.b) i).hi = bif decide (i = 0) then 12 else bif decide (i - 1 = 0) then 32 else x.b) := by
 kernel_rfl
def s_frac := pD dI2 λ x => .d (eRt ⟨x.a, x.b⟩)
def V_frac (x : I2) : Prop := fnVC Try.prog (ann 8 []) F_fraction (bodyOf F_fraction) (xI2 x) (heapOf []) (.d (eRt ⟨x.a, x.b⟩)) [] [] []
theorem vc_frac (x : I2) : (V_frac x) = (x.a = x.a /\ x.b = x.b) := by kernel_rfl
theorem ok_below : SpecOk Try.prog n_below s_below := pD_ok xR2 hR2 λ g _ => fnt (A := ann 16 []) (ren := []) (fz := []) fn_below (by kernel_rfl) gok_nil (by
 show V_below g; rw [vc_below]; rfl)
theorem hB1 (xs : List AVal) (a : Bnd) (h : dB1 xs = some a) : xs = xB1 a := by
 unfold dB1 at h; split at h <;> cases h; rfl
theorem ok_sound : SpecOk Try.prog n_sound s_sound := pD_ok xB1 hB1 λ b _ => fnt (A := A_sound b) (ren := []) (fz := []) fn_sound (by kernel_rfl) (gok_cons ok_below gok_nil) (by
 show V_sound b; rw [vc_sound]; simp only [condP, eq_self, implies_true, and_self, true_and, and_true, true_implies, forall_const, decide_eq_true_eq, decide_eq_false_iff_not, Int.toNat_natCast, dSpan_eSpan, dInt_eInt, dGau_e, dPt_e, dLn_e, dRt_e, Nat.zero_add, Int.zero_sub, Nat.le_eq, Nat.succ_eq_add_one, Nat.add_one_le_iff, Bool.not_eq_true', Bool.not_eq_false', rng_length, dSpan_mk, rng_getD]
 have eF : ∀ r : Rt, (bif bif bif decide (r.d < 1) then true else decide (r.d > 2000) then true else decide (r.n < 0) then true else decide (r.n > IntKind.i64.wrap (200000 * r.d))) = !fsM r := λ r => by
  unfold fsM wr; rw [Bool.not_not]
  cases decide (r.d < 1) <;> cases decide (r.d > 2000) <;> cases decide (r.n < 0) <;> rfl
 simp only [eF]
 refine ⟨⟨0, ⟨λ i hi => ?_, rfl⟩, by omega, λ h => absurd h (by omega), λ h => absurd h (by omega)⟩, λ i ⟨i1, i2, i3⟩ => ⟨λ hlt => ⟨⟨by omega, by omega⟩, λ hf => ?_, λ hf => ⟨i + 1, (wsucc (by omega)).symm, ⟨by omega, λ _ => ?_, λ _ => ?_⟩, by omega⟩⟩, λ hge => ?_⟩⟩
 ·match i, hi with
  | 0, _ => exact ⟨rfl, rfl⟩
  | 1, _ => exact ⟨rfl, rfl⟩
 ·have hf : fsM (gD (rtL b) i) = false := by simpa using hf
  unfold sndM
  rcases (show i = 0 ∨ i = 1 by omega) with rfl | rfl
  ·rw [show fsM b.lo = false from hf]; rfl
  ·rw [show fsM b.hi = false from hf]; cases fsM b.lo <;> rfl
 ·have hf : fsM (gD (rtL b) i) = true := by simpa using hf
  rcases (show i = 0 ∨ i = 1 by omega) with rfl | rfl
  ·exact hf
  ·exact i2 (by omega)
 ·have hf : fsM (gD (rtL b) i) = true := by simpa using hf
  have : i = 1 := by omega
  subst this; exact hf
 ·unfold sndM; rw [i2 (by omega), i3 (by omega)]; rfl)
theorem ok_Three : SpecOk Try.prog n_Three s_Three := pD_ok xI2 hI2 λ x _ => fnt (A := A_Three) (ren := []) (fz := []) fn_Three (by kernel_rfl) gok_nil (by
 show V_Three x; rw [vc_Three]
 refine ⟨rfl, λ i hi => ?_⟩
 match i, hi with
 | 0, _ => exact ⟨rfl, rfl, rfl⟩
 | 1, _ => exact ⟨rfl, rfl, rfl⟩
 | 2, _ => exact ⟨rfl, rfl, rfl⟩)
theorem ok_frac : SpecOk Try.prog n_fraction s_frac := pD_ok xI2 hI2 λ x _ => fnt (A := ann 8 []) (ren := []) (fz := []) fn_fraction (by kernel_rfl) gok_nil (by
 show V_frac x; rw [vc_frac]; exact ⟨rfl, rfl⟩)
end Go.Bal
