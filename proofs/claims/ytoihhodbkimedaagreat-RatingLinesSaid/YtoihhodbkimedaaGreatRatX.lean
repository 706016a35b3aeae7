/- Package rating: awake. -/
import Derived.Test.YtoihhodbkimedaaGreatRatW
set_option linter.unusedVariables false
set_option linter.unusedSimpArgs false
namespace Go.Bal
open Go Go.Sym Go.Proofs
def BBF : Ann := { ann 178 [(AOK, BBB), (AXR, C_Rate.spec JW), (ALM, C_Knots.spec JW), (AWI, C_Knot.spec dGK), (AYJ, C_Flow.spec dGBt), (AAS, C_Stages.spec dGBf), (BEV, C_Dry.spec dGB), (Tn, BHY)] with md := λ id => if id = 4 then some (λ k => if k = 1 then 4 else 0) else if id = 5 then some (λ k => if k = 4 then 4 else if k = 5 then 4 else 0) else none }
def BAZ (n : Nat) : Prop := AO Try.prog BBF AOE (AF AOE) [] (AC []) (.bool true) [] [] []
abbrev FZ : Prop := (3 : Nat) = (3 : Nat)
abbrev z_awake_1 : List Gau := Bg (50 : Int) (52 : Int)
abbrev WH (i : Nat) : Gau := gD z_awake_1 i
abbrev Mm (i : Nat) : Gau := gD (AD z_awake_1.length λ (i : Nat) => WH i) i
abbrev LD : Prop := ∀ (i : Nat), i < (3 : Nat) -> (Mm i).st = (WH i).st /\ (Mm i).lo = (WH i).lo /\ (Mm i).hi = (WH i).hi
abbrev xY : Prop := (3 : Nat) < (20 : Nat) /\ True
abbrev z_awake_6 : List Gau := Bg (60 : Int) (62 : Int)
abbrev WL (i : Nat) : Gau := gD z_awake_6 i
abbrev Kz (i : Nat) : Gau := gD (AD z_awake_6.length λ (i : Nat) => WL i) i
abbrev uZ : Prop := ∀ (i : Nat), i < (3 : Nat) -> (Kz i).st = (WL i).st /\ (Kz i).lo = (WL i).lo /\ (Kz i).hi = (WL i).hi
abbrev Yq : Prop := FZ /\ uZ /\ xY
abbrev MO (i : Nat) : Bool := decide (i = (0 : Nat))
abbrev Sj (i : Nat) : Int := bif MO i then (0 : Int) else bif decide (i - (1 : Nat) = (0 : Nat)) then (1 : Int) else (2 : Int)
abbrev Wp : Prop := (3 : Nat) < (1073741824 : Nat)
abbrev Vi : Prop := (2 : Nat) = (2 : Nat)
abbrev Ux (i : Nat) : Int := bif MO i then (100 : Int) else (200 : Int)
abbrev Ub (i : Nat) : Int := bif MO i then (10 : Int) else (5 : Int)
abbrev Tr (i : Nat) : Int := bif MO i then (12 : Int) else (8 : Int)
abbrev Ce (i : Nat) : Gau := gD (AD (2 : Nat) λ (i : Nat) => Gau.mk (Ux i) (Ub i) (Tr i)) i
abbrev aA (i : Nat) : Int := bif MO i then (0 : Int) else (1 : Int)
abbrev Zi : Prop := (2 : Nat) < (1073741824 : Nat)
abbrev ED : Prop := (0 : Nat) = (0 : Nat)
abbrev KK : Prop := ((3 : Nat) < (4611686018427387904 : Nat) /\ (0 : Nat) < (4611686018427387904 : Nat)) /\ True
theorem BJH (n : Nat) : (BAZ n) = ((FZ /\ LD /\ xY) /\ Yq /\ (FZ /\ uZ /\ FZ /\ (∀ (i : Nat), i < (3 : Nat) -> gD (AD (3 : Nat) λ (i : Nat) => Sj i) i =
 Sj i) /\ Wp /\ Wp) /\ (Vi /\ (∀ (i : Nat), i < (2 : Nat) -> (Ce i).st = Ux i /\ (Ce i).lo = Ub i /\ (Ce i).hi = Tr i) /\ Vi /\ (∀ (i : Nat),
 i < (2 : Nat) -> gD (AD (2 : Nat) λ (i : Nat) => aA i) i = aA i) /\ Zi /\ Zi) /\ Yq /\ (FZ /\ LD /\ ED /\ ED /\ Int.ofNat (400 : Nat) = Int.ofNat (400 :
 Nat) /\ KK) /\ (FZ /\ LD /\ ED /\ ED /\ Int.ofNat (150 : Nat) = Int.ofNat (150 : Nat) /\ KK) /\ (FZ /\ LD /\ ED /\ ED /\ Int.ofNat (50 : Nat) = Int.ofNat
 (50 : Nat) /\ KK) /\ (FZ /\ LD /\ ED /\ ED /\ Int.ofNat (40 : Nat) = Int.ofNat (40 : Nat) /\ KK) /\ (FZ /\ LD /\ ED /\ ED /\ KK) /\ true = true) :=
 by kernel_rfl
def AZH : List AVal -> Option (AVal × List Prop)
 | [] => some (.bool true, [])
 | _ => none
def BBS : Sym.Spec := kJ AZH
theorem BOB : BAZ 0 := by
 rw [BJH]; delta FZ z_awake_1 WH Mm LD xY z_awake_6 WL Kz uZ Yq MO Sj Wp Vi Ux Ub Tr Ce aA Zi ED KK; simp only [CC, eq_self, implies_true, forall_const]
 decide +kernel
theorem BHE : AG Try.prog ASG BBS := C4 λ xs v p h _ => by
 unfold AZH at h; split at h
 ·cases h; exact JZ (A := BBF) (ren := []) (fz := []) BIW (by kernel_rfl) (AB BEX (AB BQC (AB BHK (AB BOI (AB BMM (AB BCU (AB BVV (AB BQD AE)))))))) BOB
 ·cases h
end Go.Bal
