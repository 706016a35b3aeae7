/- Package rating: below, sound, the examples of the chapter. -/
import Derived.Test.YtoihhodbkimedaaRatV
set_option linter.unusedVariables false
set_option linter.unusedSimpArgs false
namespace Go.Bal
open Go Go.Sym Go.Proofs
def belM (a b : Rt) : Bool := decide (wr (a.n * b.d) < wr (b.n * a.d))
def BRQ := pD dR2 λ x => .bool (belM x.lo x.hi)
def BRX (a : Bnd) : Prop := AY Try.prog (ann 16 []) BHK (AF BHK) (xR2 a) (AC []) (.bool (belM a.lo a.hi)) [] [] []
theorem BXK (a : Bnd) : (BRX a) = (belM a.lo a.hi = decide (IntKind.i64.wrap (a.lo.n * a.hi.d) < IntKind.i64.wrap (a.hi.n * a.lo.d))) := by kernel_rfl
def dB1 : List AVal -> Option Bnd
 | [.d (.agg [.v (.int .i64 a), .v (.int .i64 b), .v (.int .i64 c), .v (.int .i64 d)])] => some ⟨⟨a, b⟩, ⟨c, d⟩⟩
 | _ => none
def xB1 (b : Bnd) : List AVal := [.d (eBnd b)]
def fsM (r : Rt) : Bool := !(decide (r.d < 1) || (decide (r.d > 2000) || (decide (r.n < 0) || decide (r.n > wr (200000 * r.d)))))
def A9 (b : Bnd) : Bool := fsM b.lo && (fsM b.hi && !belM b.hi b.lo)
def BQU := pD dB1 λ b => .bool (A9 b)
def rtL (b : Bnd) : List Rt := [b.lo, b.hi]
def so2b (b : Bnd) : Shape := { α := Nat, dflt := 0, T := λ i => ⟨[(1, .bptr 1000 0), (9, .d (lst 2 2 λ i => eRt (gD (rtL b) i))), (10, .int 2), (11, .int i)], [(1000, .live (.box [.int b.lo.n, .int b.lo.d, .int b.hi.n, .int b.hi.d]))]⟩, inv := λ i => i <= 2 /\ (1 <= i -> fsM b.lo = true) /\ (2 <= i -> fsM b.hi = true), meas := λ i => 2 - i }
def BRW (b : Bnd) : Ann := { ann 43 [(BGO, BRQ)] with md := λ id => if id = 1 then some (λ k => if k = 4 then 4 else 0) else none, loops := λ id => if id = 2 then some [so2b b] else none }
def BPX (b : Bnd) : Prop := AY Try.prog (BRW b) BDF (AF BDF) (xB1 b) (AC []) (.bool (A9 b)) [] [] []
theorem uM (b : Bnd) : (BPX b) = ((∃ (a : Nat), ((2 : Nat) = (2 : Nat) /\ (∀ (i : Nat), i < (2 : Nat) -> ((gD (rtL b) i).n = bif decide (i = (0 : Nat)) then b.lo.n else b.hi.n) /\ (gD (rtL b) i).d = bif decide (i
 = (0 : Nat)) then b.lo.d else b.hi.d) /\ Int.ofNat (2 : Nat) = Int.ofNat (2 : Nat) /\ (↑a : Int) = (0 : Int) /\ b.lo.n = b.lo.n /\ b.lo.d = b.lo.d /\ b.hi.n = b.hi.n /\ b.hi.d = b.hi.d) /\ a <= (2 : Nat) /\ ((1 : Nat) <= a -> fsM
 b.lo = true) /\ ((2 : Nat) <= a -> fsM b.hi = true)) /\ ∀ (a : Nat), a <= (2 : Nat) /\ ((1 : Nat) <= a -> fsM b.lo = true) /\ ((2 : Nat) <= a -> fsM b.hi = true) -> bif decide ((↑a : Int) < (2 : Int)) then ((0 : Int) <= (↑a : Int) /\
 (↑a : Int) < (↑(2 : Nat) : Int)) /\ bif bif bif bif decide ((gD (rtL b) a).d < (1 : Int)) then true else decide ((gD (rtL b) a).d > (2000 : Int)) then true else decide ((gD (rtL b) a).n < (0 : Int)) then true else decide
 ((gD (rtL b) a).n > IntKind.i64.wrap ((200000 : Int) * (gD (rtL b) a).d)) then A9 b = false else ∃ (a_2 : Nat), ((2 : Nat) = (2 : Nat) /\ (∀ (i : Nat), i < (2 : Nat) -> (gD (rtL b) i).n = (gD (rtL b) i).n /\ (gD (rtL b)
 i).d = (gD (rtL b) i).d) /\ Int.ofNat (2 : Nat) = Int.ofNat (2 : Nat) /\ (↑a_2 : Int) = IntKind.i64.wrap ((↑a : Int) + (1 : Int)) /\ b.lo.n = b.lo.n /\ b.lo.d = b.lo.d /\ b.hi.n = b.hi.n /\ b.hi.d = b.hi.d) /\ (a_2 <= (2 : Nat)
 /\ ((1 : Nat) <= a_2 -> fsM b.lo = true) /\ ((2 : Nat) <= a_2 -> fsM b.hi = true)) /\ (2 : Nat) - a_2 < (2 : Nat) - a else A9 b = !belM b.hi b.lo) := by kernel_rfl
def Db (a b : Int) : List Gau := [⟨100, 10, 12⟩, ⟨200, 30, 32⟩, ⟨300, a, b⟩]
def BTP := pD dI2 λ x => .d (BO (Db x.a x.b))
def BQZ : Ann := { ann 14 [] with md := λ id => if id = 1 then some (λ k => if k = 8 then 4 else 0) else none }
def BSF (x : I2) : Prop := AY Try.prog BQZ BGJ (AF BGJ) (xI2 x) (AC []) (.d (BO (Db x.a x.b))) [] [] []
theorem CCF (x : I2) : (BSF x) = ((Db x.a x.b).length = 3 /\ ∀ (i : Nat), i < (Db x.a x.b).length -> ((gD (Db x.a x.b) i).st = bif decide (i = 0) then 100 else bif decide (i - 1 = 0) then 200 else 300)
 /\ ((gD (Db x.a x.b) i).lo = bif decide (i = 0) then 10 else bif decide (i - 1 = 0) then 30 else x.a) /\ (gD (Db x.a x.b) i).hi = bif decide (i = 0) then 12 else bif decide (i - 1 = 0) then 32 else x.b) := by
 kernel_rfl
def CDD := pD dI2 λ x => .d (eRt ⟨x.a, x.b⟩)
def BYV (x : I2) : Prop := AY Try.prog (ann 8 []) nR (AF nR) (xI2 x) (AC []) (.d (eRt ⟨x.a, x.b⟩)) [] [] []
theorem CHD (x : I2) : (BYV x) = (x.a = x.a /\ x.b = x.b) := by kernel_rfl
theorem CCY : AG Try.prog BGO BRQ := HF xR2 hR2 λ g _ => RD (A := ann 16 []) (ren := []) (fz := []) BZP (by kernel_rfl) AE (by
 show BRX g; rw [BXK]; rfl)
theorem hB1 (xs : List AVal) (a : Bnd) (h : dB1 xs = some a) : xs = xB1 a := by
 unfold dB1 at h; split at h <;> cases h; rfl
theorem BLN : AG Try.prog BCR BQU := HF xB1 hB1 λ b _ => RD (A := BRW b) (ren := []) (fz := []) BXX (by kernel_rfl) (AB CCY AE) (by
 show BPX b; rw [uM]; simp only [CC, eq_self, implies_true, forall_const]
 have eF : ∀ r : Rt, (bif bif bif decide (r.d < 1) then true else decide (r.d > 2000) then true else decide (r.n < 0) then true else decide (r.n > IntKind.i64.wrap (200000 * r.d))) = !fsM r := λ r => by
  unfold fsM wr; rw [Bool.not_not]
  cases decide (r.d < 1) <;> cases decide (r.d > 2000) <;> cases decide (r.n < 0) <;> rfl
 simp only [eF]
 refine ⟨⟨0, ⟨λ i hi => ?_, rfl⟩, by omega, λ h => absurd h (by omega), λ h => absurd h (by omega)⟩, λ i ⟨i1, i2, i3⟩ => ⟨λ hlt => ⟨⟨by omega, by omega⟩, λ hf => ?_, λ hf => ⟨i + 1, (CA (by omega)).symm, ⟨by omega, λ _ => ?_, λ _ => ?_⟩, by omega⟩⟩, λ hge => ?_⟩⟩
 ·match i, hi with
  | 0, _ => exact ⟨rfl, rfl⟩
  | 1, _ => exact ⟨rfl, rfl⟩
 ·have hf : fsM (gD (rtL b) i) = false := by simpa using hf
  unfold A9
  rcases (show i = 0 ∨ i = 1 by omega) with rfl | rfl
  ·rw [show fsM b.lo = false from hf]; rfl
  ·rw [show fsM b.hi = false from hf]; cases fsM b.lo <;> rfl
 ·have hf : fsM (gD (rtL b) i) = true := by simpa using hf
  rcases (show i = 0 ∨ i = 1 by omega) with rfl | rfl
  ·exact hf
  ·exact i2 (by omega)
 ·have hf : fsM (gD (rtL b) i) = true := by simpa using hf
  have : i = 1 := by omega
  subst this; exact hf
 ·unfold A9; rw [i2 (by omega), i3 (by omega)]; rfl)
theorem CBA : AG Try.prog BFI BTP := HF xI2 hI2 λ x _ => RD (A := BQZ) (ren := []) (fz := []) CAO (by kernel_rfl) AE (by
 show BSF x; rw [CCF]
 refine ⟨rfl, λ i hi => ?_⟩
 match i, hi with
 | 0, _ => exact ⟨rfl, rfl, rfl⟩
 | 1, _ => exact ⟨rfl, rfl, rfl⟩
 | 2, _ => exact ⟨rfl, rfl, rfl⟩)
theorem CFC : AG Try.prog iB CDD := HF xI2 hI2 λ x _ => RD (A := ann 8 []) (ren := []) (fz := []) BLV (by kernel_rfl) AE (by
 show BYV x; rw [CHD]; exact ⟨rfl, rfl⟩)
end Go.Bal

namespace Go.Bal
open Go Go.Sym Go.Proofs
def BTF : Ann := { ann 178 [(BFI, BTP), (BFT, C_Rate.spec UV), (BHR, C_Knots.spec UV), (BOU, C_Knot.spec dGK), (BEF, C_Flow.spec dGBt), (AYW, C_Stages.spec dGBf), (CCV, C_Dry.spec dGB), (iB, CDD)] with md := λ id => if id = 4 then some (λ k => if k = 1 then 4 else 0) else if id = 5 then some (λ k => if k = 4 then 4 else if k = 5 then 4 else 0) else none }
def BPQ (n : Nat) : Prop := AY Try.prog BTF BCT (AF BCT) [] (AC []) (.bool true) [] [] []
abbrev GZ : Prop := (3 : Nat) = (3 : Nat)
abbrev z_awake_1 : List Gau := Db (50 : Int) (52 : Int)
abbrev ZB (i : Nat) : Gau := gD z_awake_1 i
abbrev Uv (i : Nat) : Gau := gD (AD z_awake_1.length λ (i : Nat) => ZB i) i
abbrev OG : Prop := ∀ (i : Nat), i < (3 : Nat) -> (Uv i).st = (ZB i).st /\ (Uv i).lo = (ZB i).lo /\ (Uv i).hi = (ZB i).hi
abbrev zG : Prop := (3 : Nat) < (20 : Nat) /\ True
abbrev z_awake_6 : List Gau := Db (60 : Int) (62 : Int)
abbrev WX (i : Nat) : Gau := gD z_awake_6 i
abbrev Tr (i : Nat) : Gau := gD (AD z_awake_6.length λ (i : Nat) => WX i) i
abbrev ADS : Prop := ∀ (i : Nat), i < (3 : Nat) -> (Tr i).st = (WX i).st /\ (Tr i).lo = (WX i).lo /\ (Tr i).hi = (WX i).hi
abbrev dV : Prop := GZ /\ ADS /\ zG
abbrev OI (i : Nat) : Bool := decide (i = (0 : Nat))
abbrev Xu (i : Nat) : Int := bif OI i then (0 : Int) else bif decide (i - (1 : Nat) = (0 : Nat)) then (1 : Int) else (2 : Int)
abbrev dD : Prop := (3 : Nat) < (1073741824 : Nat)
abbrev mQ : Prop := (2 : Nat) = (2 : Nat)
abbrev hZ (i : Nat) : Int := bif OI i then (100 : Int) else (200 : Int)
abbrev jD (i : Nat) : Int := bif OI i then (10 : Int) else (5 : Int)
abbrev mD (i : Nat) : Int := bif OI i then (12 : Int) else (8 : Int)
abbrev Fa (i : Nat) : Gau := gD (AD (2 : Nat) λ (i : Nat) => Gau.mk (hZ i) (jD i) (mD i)) i
abbrev Ws (i : Nat) : Int := bif OI i then (0 : Int) else (1 : Int)
abbrev Vu : Prop := (2 : Nat) < (1073741824 : Nat)
abbrev EW : Prop := (0 : Nat) = (0 : Nat)
abbrev OC : Prop := ((3 : Nat) < (4611686018427387904 : Nat) /\ (0 : Nat) < (4611686018427387904 : Nat)) /\ True
theorem BZU (n : Nat) : (BPQ n) = ((GZ /\ OG /\ zG) /\ dV /\ (GZ /\ ADS /\ GZ /\ (∀ (i : Nat), i < (3 : Nat) -> gD (AD (3 : Nat) λ (i : Nat) => Xu i) i =
 Xu i) /\ dD /\ dD) /\ (mQ /\ (∀ (i : Nat), i < (2 : Nat) -> (Fa i).st = hZ i /\ (Fa i).lo = jD i /\ (Fa i).hi = mD i) /\ mQ /\ (∀ (i : Nat),
 i < (2 : Nat) -> gD (AD (2 : Nat) λ (i : Nat) => Ws i) i = Ws i) /\ Vu /\ Vu) /\ dV /\ (GZ /\ OG /\ EW /\ EW /\ Int.ofNat (400 : Nat) = Int.ofNat (400 :
 Nat) /\ OC) /\ (GZ /\ OG /\ EW /\ EW /\ Int.ofNat (150 : Nat) = Int.ofNat (150 : Nat) /\ OC) /\ (GZ /\ OG /\ EW /\ EW /\ Int.ofNat (50 : Nat) = Int.ofNat
 (50 : Nat) /\ OC) /\ (GZ /\ OG /\ EW /\ EW /\ Int.ofNat (40 : Nat) = Int.ofNat (40 : Nat) /\ OC) /\ (GZ /\ OG /\ EW /\ EW /\ OC) /\ true = true) :=
 by kernel_rfl
def BTM : List AVal -> Option (AVal × List Prop)
 | [] => some (.bool true, [])
 | _ => none
def BRJ : Sym.Spec := It BTM
theorem CEX : BPQ 0 := by
 rw [BZU]; delta GZ z_awake_1 ZB Uv OG zG z_awake_6 WX Tr ADS dV OI Xu dD mQ hZ jD mD Fa Ws Vu EW OC; simp only [CC, eq_self, implies_true, forall_const]
 decide +kernel
theorem BKR : AG Try.prog BEP BRJ := Lg λ xs v p h _ => by
 unfold BTM at h; split at h
 ·cases h; exact RD (A := BTF) (ren := []) (fz := []) CCK (by kernel_rfl) (AB CBA (AB BHF (AB CAJ (AB CEL (AB BDM (AB BUP (AB CKD (AB CFC AE)))))))) CEX
 ·cases h
end Go.Bal
