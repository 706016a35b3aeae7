/- TopOwed: the crew of two is settled (package crew). -/
import Derived.Test.YtgjkmndbkidgjaaGreatOwU
set_option linter.unusedVariables false
set_option linter.unusedSimpArgs false
set_option maxRecDepth 8000
namespace Go.Bal
open Go Go.Sym Go.Proofs
def C_settle : Ctr := { ro := [101], α := One, xs := λ _ => [.bptr 101 0], L := λ _ => [(101, wkO)], val := λ _ => .tup [.d (AF [1, 0]), .d r00], keep := λ _ => [(101, .live wkO)] }
def ABA : List AVal -> Heap -> Option (One × List (Nat × Nat) × List Nat)
 | [.bptr w _], _ => some (default, [(101, w)], [])
 | _, _ => none
def ABT : Ann := { ann 51 [(AIK, C_rep.spec AOF), (IF, orS (C_ak0.spec Y7) (C_ak1.spec AYD))] with E := [101], mt := λ id => id == 1 || id == 5, unr := λ id => if id = 3 then 3 else if id = 12 then 3 else 0, off := λ gs => gs.headD 0 }
def AAW (_x : One) : Prop := BB Try.prog ABT qH (AS qH) [.bptr 101 0] (AK [(101, wkO)]) (.tup [.d (AF [1, 0]), .d r00]) [(101, .live wkO)] [] [8112]
abbrev Jd : Prop := (0 : Int) < (↑(2 : Nat) : Int)
abbrev Qx : Int := IntKind.i64.wrap ((0 : Int) + (1 : Int))
abbrev Lh : Prop := (1 : Nat) = (1 : Nat)
abbrev Ka : Int := gD (AJ (1 : Nat) λ (i : Nat) => (-1 : Int)) (0 : Nat)
abbrev AD : Prop := Int.ofNat (0 : Nat) = Int.ofNat (0 : Nat)
abbrev DN : Prop := (2 : Nat) = (2 : Nat)
abbrev US (i : Nat) : Nat := (gD two.p i).length
abbrev Hg (i : Nat) (i1 : Nat) : Int := gD (gD two.p i) i1
abbrev XU : Prop := ∀ (i : Nat), i < (2 : Nat) -> US i = US i /\ ∀ (i_1 : Nat), i_1 < US i -> Hg i i_1 = Hg i i_1
abbrev Ga (i : Nat) (i1 : Nat) : Int := gD (gD two.s i).o i1
abbrev PU : Prop := ∀ (i : Nat), i < (2 : Nat) -> (gD two.s i).n = (gD two.s i).n /\ (gD two.s i).o.length = (gD two.s i).o.length /\ ∀ (i_1 : Nat), i_1 < (gD two.s i).o.length -> Ga i i_1 = Ga i i_1
abbrev HD : Prop := Int.ofNat (1 : Nat) = Int.ofNat (1 : Nat)
abbrev GY : Prop := (0 : Nat) = (0 : Nat)
abbrev Ab : Prop := ∀ (i : Nat), i < (0 : Nat) -> false = false
abbrev ZY : Prop := (∀ (n : Int), false = false) /\ ∀ (n : Int), false = false
abbrev ZU : Prop := ∀ (n : Int), s_b0.h0 n = s_b0.h0 n
abbrev Ak (i : Nat) : Rf := gD [Rf.mk (0 : Int) (0 : Int)] i
abbrev ZX (i : Nat) : Int := (Ak i).p
abbrev Au (i : Nat) : Int := (Ak i).s
theorem AJY (_x : One) : (AAW _x) = ((Jd /\ Int.ofNat two.s.length = Int.ofNat two.s.length /\ (↑(2 : Nat) : Int) <= (9223372036854775807 : Int) /\ (↑(8 : Nat) : Int) * (↑(2 : Nat) : Int) <=
 (281474976710656 : Int)) /\ ((0 : Int) <= (0 : Int) /\ Jd) /\ ((0 : Int) <= Qx /\ Qx < (↑(2 : Nat) : Int)) /\ (Lh /\ (1 : Nat) <= (1 : Nat) /\ (∀ (j : Nat), j < (1 : Nat) -> gD (sng Ka) j =
 (-1 : Int)) /\ Int.ofNat two.p.length = Int.ofNat two.p.length /\ (1 : Nat) <= (2 : Nat) /\ (2 : Nat) <= (40 : Nat)) /\ (AD /\ DN /\ XU /\ DN /\ PU /\ HD /\ AD /\ AD /\
 AD /\ AD /\ AD /\ AD /\ AD /\ AD /\ AD /\ AD /\ AD /\ AD /\ HD /\ AD /\ AD /\ AD /\ AD /\ AD /\ AD
 /\ AD /\ AD /\ AD /\ AD /\ AD /\ AD /\ AD /\ AD /\ AD /\ AD /\ AD /\ AD /\ AD /\ AD /\ AD /\ AD /\ AD
 /\ AD /\ AD /\ AD /\ AD /\ AD /\ AD /\ AD /\ AD /\ AD /\ AD /\ AD /\ AD /\ AD /\ AD /\ AD /\ AD /\ AD
 /\ AD /\ AD /\ AD /\ AD /\ AD /\ AD /\ AD /\ AD /\ AD /\ AD /\ AD /\ AD /\ AD /\ AD /\ AD /\ AD /\ AD
 /\ AD /\ AD /\ AD /\ AD /\ AD /\ AD /\ AD /\ AD /\ AD /\ AD /\ AD /\ AD /\ AD /\ AD /\ AD /\ AD /\ AD
 /\ AD /\ AD /\ AD /\ AD /\ AD /\ AD /\ AD /\ AD /\ AD /\ AD /\ AD /\ AD /\ AD /\ AD /\ AD /\ AD /\ AD
 /\ AD /\ AD /\ AD /\ AD /\ AD /\ AD /\ AD /\ AD /\ AD /\ AD /\ AD /\ AD /\ AD /\ AD /\ AD /\ AD /\ AD
 /\ AD /\ AD /\ AD /\ AD /\ AD /\ AD /\ AD /\ AD /\ AD /\ AD /\ AD /\ AD /\ AD /\ AD /\ AD /\ AD /\ AD
 /\ AD /\ AD /\ AD /\ AD /\ AD /\ GY /\ Ab /\ GY /\ DN /\ DN /\ (∀ (i : Nat), i < (2 : Nat) -> gD s_a0.a i = Ka) /\ GY /\ DN /\
 zB = Value.bool false /\ (∀ (n : Int), false = false) /\ (∀ (n : Int), false = false) /\ zB = Value.bool false /\ ZY) /\ (Int.ofNat (1 : Nat) = Int.ofNat (((0 : Nat) + (1 : Nat)) % ((2 : Int) ^
 IntKind.i64.bits).natAbs) /\ DN /\ XU /\ DN /\ PU /\ HD /\ AD /\ AD /\ AD /\ AD /\ AD /\ AD /\ AD /\ AD /\ AD /\
 AD /\ AD /\ AD /\ HD /\ AD /\ AD /\ AD /\ AD /\ AD /\ AD /\ AD /\ AD /\ AD /\ AD /\ AD /\ AD /\ AD
 /\ AD /\ AD /\ AD /\ AD /\ AD /\ AD /\ AD /\ AD /\ AD /\ AD /\ AD /\ AD /\ AD /\ AD /\ AD /\ AD /\ AD
 /\ AD /\ AD /\ AD /\ AD /\ AD /\ AD /\ AD /\ AD /\ AD /\ AD /\ AD /\ AD /\ AD /\ AD /\ AD /\ AD /\ AD
 /\ AD /\ AD /\ AD /\ AD /\ AD /\ AD /\ AD /\ AD /\ AD /\ AD /\ AD /\ AD /\ AD /\ AD /\ AD /\ AD /\ AD
 /\ AD /\ AD /\ AD /\ AD /\ AD /\ AD /\ AD /\ AD /\ AD /\ AD /\ AD /\ AD /\ AD /\ AD /\ AD /\ AD /\ AD
 /\ AD /\ AD /\ AD /\ AD /\ AD /\ AD /\ AD /\ AD /\ AD /\ AD /\ AD /\ AD /\ AD /\ AD /\ AD /\ AD /\ AD
 /\ AD /\ AD /\ AD /\ AD /\ AD /\ AD /\ AD /\ AD /\ AD /\ AD /\ AD /\ AD /\ AD /\ AD /\ AD /\ AD /\ AD
 /\ AD /\ AD /\ AD /\ AD /\ AD /\ AD /\ AD /\ AD /\ AD /\ AD /\ AD /\ AD /\ AD /\ AD /\ AD /\ GY /\
 Ab /\ GY /\ DN /\ DN /\ (∀ (i : Nat), i < (2 : Nat) -> gD s_b0.a i = gD s_b0.a i) /\ GY /\ DN /\ zB = zB /\ ZU /\ ZU /\ zB = zB /\ ZY) /\ DN /\ (2 :
 Nat) <= (2 : Nat) /\ (∀ (j : Nat), j < (2 : Nat) -> gD [(1 : Int), (0 : Int)] j = gD s_b2.a ((0 : Nat) + j)) /\ Lh /\ (∀ (i : Nat), i < (1 : Nat) -> ZX i = ZX i /\ Au i = Au i) /\
 DN /\ XU /\ DN /\ PU /\ HD /\ AD /\ AD /\ AD /\ AD /\ AD /\ AD /\ AD /\ AD /\ AD /\ AD /\ AD /\ AD
 /\ HD /\ AD /\ AD /\ AD /\ AD /\ AD /\ AD /\ AD /\ AD /\ AD /\ AD /\ AD /\ AD /\ AD /\ AD /\ AD /\
 AD /\ AD /\ AD /\ AD /\ AD /\ AD /\ AD /\ AD /\ AD /\ AD /\ AD /\ AD /\ AD /\ AD /\ AD /\ AD /\ AD /\
 AD /\ AD /\ AD /\ AD /\ AD /\ AD /\ AD /\ AD /\ AD /\ AD /\ AD /\ AD /\ AD /\ AD /\ AD /\ AD /\ AD /\
 AD /\ AD /\ AD /\ AD /\ AD /\ AD /\ AD /\ AD /\ AD /\ AD /\ AD /\ AD /\ AD /\ AD /\ AD /\ AD /\ AD /\
 AD /\ AD /\ AD /\ AD /\ AD /\ AD /\ AD /\ AD /\ AD /\ AD /\ AD /\ AD /\ AD /\ AD /\ AD /\ AD /\ AD /\
 AD /\ AD /\ AD /\ AD /\ AD /\ AD /\ AD /\ AD /\ AD /\ AD /\ AD /\ AD /\ AD /\ AD /\ AD /\ AD /\ AD /\
 AD /\ AD /\ AD /\ AD /\ AD /\ AD /\ AD /\ AD /\ AD /\ AD /\ AD /\ AD /\ AD /\ AD /\ AD /\ AD /\ AD /\
 AD /\ AD /\ AD /\ AD /\ AD /\ AD /\ AD /\ AD /\ AD /\ AD /\ AD /\ AD /\ AD) := by kernel_rfl
def C_Asg : Ctr := { α := One, xs := λ _ => [.d (eRo two)], L := λ _ => [], val := λ _ => .tup [.d (AF [1, 0]), .int 0], keep := λ _ => [] }
def AXN : Ann := ann 22 [(ADG, C_cOpn.spec AIH), (nX, C_settle.spec ABA)]
def AWM (_x : One) : Prop := BB Try.prog AXN sI (AS sI) [.d (eRo two)] (AK []) (.tup [.d (AF [1, 0]), .int 0]) [] [] []
abbrev PX : Prop := (2 : Nat) = (2 : Nat)
abbrev iD (i : Nat) : Nat := (gD two.p i).length
abbrev G4 (i : Nat) (i1 : Nat) : Int := gD (gD two.p i) i1
abbrev jA : Prop := ∀ (i : Nat), i < (2 : Nat) -> iD i = iD i /\ ∀ (i_1 : Nat), i_1 < iD i -> G4 i i_1 = G4 i i_1
abbrev F6 (i : Nat) (i1 : Nat) : Int := gD (gD two.s i).o i1
abbrev kI : Prop := ∀ (i : Nat), i < (2 : Nat) -> (gD two.s i).n = (gD two.s i).n /\ (gD two.s i).o.length = (gD two.s i).o.length /\ ∀ (i_1 : Nat), i_1 < (gD two.s i).o.length -> F6 i i_1 = F6 i i_1
abbrev Vs : Prop := Int.ofNat (1 : Nat) = Int.ofNat (1 : Nat)
abbrev AE : Prop := Int.ofNat (0 : Nat) = Int.ofNat (0 : Nat)
abbrev C3 (i : Nat) : Int := gD [(1 : Int), (0 : Int)] i
theorem BAZ (_x : One) : (AWM _x) = ((PX /\ jA /\ PX /\ kI) /\ (PX /\ jA /\ PX /\ kI /\ Vs /\ AE /\ AE /\ AE /\ AE /\ AE /\ AE /\ AE /\ AE /\
 AE /\ AE /\ AE /\ AE /\ Vs /\ AE /\ AE /\ AE /\ AE /\ AE /\ AE /\ AE /\ AE /\ AE /\ AE /\ AE /\ AE /\ AE /\ AE /\ AE /\ AE /\ AE /\
 AE /\ AE /\ AE /\ AE /\ AE /\ AE /\ AE /\ AE /\ AE /\ AE /\ AE /\ AE /\ AE /\ AE /\ AE /\ AE /\ AE /\ AE /\ AE /\ AE /\ AE /\ AE /\
 AE /\ AE /\ AE /\ AE /\ AE /\ AE /\ AE /\ AE /\ AE /\ AE /\ AE /\ AE /\ AE /\ AE /\ AE /\ AE /\ AE /\ AE /\ AE /\ AE /\ AE /\ AE /\
 AE /\ AE /\ AE /\ AE /\ AE /\ AE /\ AE /\ AE /\ AE /\ AE /\ AE /\ AE /\ AE /\ AE /\ AE /\ AE /\ AE /\ AE /\ AE /\ AE /\ AE /\ AE /\
 AE /\ AE /\ AE /\ AE /\ AE /\ AE /\ AE /\ AE /\ AE /\ AE /\ AE /\ AE /\ AE /\ AE /\ AE /\ AE /\ AE /\ AE /\ AE /\ AE /\ AE /\ AE /\
 AE /\ AE /\ AE /\ AE /\ AE /\ AE /\ AE /\ AE /\ AE /\ AE /\ AE /\ AE /\ AE /\ AE /\ AE /\ AE /\ AE /\ AE /\ AE /\ AE /\ AE /\ AE /\
 AE /\ AE /\ AE /\ PX /\ jA /\ PX /\ kI /\ Vs /\ AE /\ AE /\ AE /\ AE /\ AE /\ AE /\ AE /\ AE /\ AE /\ AE /\ AE /\ AE /\ Vs /\ AE /\
 AE /\ AE /\ AE /\ AE /\ AE /\ AE /\ AE /\ AE /\ AE /\ AE /\ AE /\ AE /\ AE /\ AE /\ AE /\ AE /\ AE /\ AE /\ AE /\ AE /\ AE /\ AE /\
 AE /\ AE /\ AE /\ AE /\ AE /\ AE /\ AE /\ AE /\ AE /\ AE /\ AE /\ AE /\ AE /\ AE /\ AE /\ AE /\ AE /\ AE /\ AE /\ AE /\ AE /\ AE /\
 AE /\ AE /\ AE /\ AE /\ AE /\ AE /\ AE /\ AE /\ AE /\ AE /\ AE /\ AE /\ AE /\ AE /\ AE /\ AE /\ AE /\ AE /\ AE /\ AE /\ AE /\ AE /\
 AE /\ AE /\ AE /\ AE /\ AE /\ AE /\ AE /\ AE /\ AE /\ AE /\ AE /\ AE /\ AE /\ AE /\ AE /\ AE /\ AE /\ AE /\ AE /\ AE /\ AE /\ AE /\
 AE /\ AE /\ AE /\ AE /\ AE /\ AE /\ AE /\ AE /\ AE /\ AE /\ AE /\ AE /\ AE /\ AE /\ AE /\ AE /\ AE /\ AE /\ AE /\ AE /\ AE /\ AE /\
 AE /\ AE /\ AE /\ AE /\ AE /\ AE /\ AE /\ AE /\ AE /\ AE /\ AE /\ AE /\ AE /\ AE /\ AE /\ AE /\ AE /\ AE /\ AE) /\ PX /\ (∀ (i : Nat), i <
 (2 : Nat) -> C3 i = C3 i) /\ AE) := by kernel_rfl
def C_Two : Ctr := { α := One, xs := λ _ => [], L := λ _ => [], val := λ _ => .d (eRo two), keep := λ _ => [] }
def xC : List AVal -> Heap -> Option (One × List (Nat × Nat) × List Nat)
 | [], _ => some (default, [], [])
 | _, _ => none
def AVH : Ann := { ann 10 [] with md := λ id => if id = 1 then some (λ k => if k <= 7 && k != 4 && k != 6 then 4 else 0) else none }
def AWA (_x : One) : Prop := BB Try.prog AVH AKZ (AS AKZ) [] (AK []) (.d (eRo two)) [] [] []
theorem BAW (_x : One) : (AWA _x) = (2 = 2 /\ (∀ (i : Nat), i < 2 -> ((gD two.p i).length = bif decide (i = 0) then 2 else 2) /\ ∀ (i_1 : Nat), i_1 < (gD two.p i).length -> gD (gD two.p i) i_1 = bif decide (i = 0) then
 bif decide (i_1 = 0) then 0 else 1 else bif decide (i_1 = 0) then 0 else 1) /\ 2 = 2 /\ ∀ (i : Nat), i < 2 -> ((gD two.s i).n = bif decide (i = 0) then 1 else 1) /\ ((gD two.s i).o.length = bif decide (i = 0) then 2 else 2)
 /\ ∀ (i_1 : Nat), i_1 < (gD two.s i).o.length -> gD (gD two.s i).o i_1 = bif decide (i = 0) then bif decide (i_1 = 0) then 1 else 0 else bif decide (i_1 = 0) then 0 else 1) := by kernel_rfl
theorem ARL (x : One) : AAW x := by
 rw [AJY]; delta Jd Qx Lh Ka AD DN US Hg XU Ga PU HD GY Ab ZY ZU Ak ZX Au; simp only [BF, eq_self, implies_true, and_self, true_and, and_true, true_implies, forall_const, decide_eq_true_eq, decide_eq_false_iff_not, Int.toNat_natCast, dSpan_eSpan, dInt_eInt, AV, BH, BJ, BC, AZ, AX, AY, Nat.zero_add, Int.zero_sub, Nat.le_eq, Nat.succ_eq_add_one, Nat.add_one_le_iff, Bool.not_eq_true', Bool.not_eq_false', rng_length, AT, AP]
 repeat' apply And.intro
 all_goals first
  | decide +kernel
  | rfl
theorem AJT : AR Try.prog nX (C_settle.spec ABA) := EX C_settle (λ _ => ABT) [] [8112] AKK (λ _ => by kernel_rfl) (λ _ => AH ARV (AH (aT AYP BAF) AM)) (λ (x : One) _ => ARL x) (λ _ => FK rfl rfl) _
theorem BCT : AR Try.prog vF (C_Asg.spec AIH) := EX C_Asg (λ _ => AXN) [] [] AJN (λ _ => by kernel_rfl) (λ _ => AH AUA (AH AJT AM)) (λ (x : One) _ => by
 show AWM x; rw [BAZ]; delta PX iD G4 jA F6 kI Vs AE C3; simp only [BF, eq_self, implies_true, and_self, true_and, and_true, true_implies, forall_const, decide_eq_true_eq, decide_eq_false_iff_not, Int.toNat_natCast, dSpan_eSpan, dInt_eInt, AV, BH, BJ, BC, AZ, AX, AY, Nat.zero_add, Int.zero_sub, Nat.le_eq, Nat.succ_eq_add_one, Nat.add_one_le_iff, Bool.not_eq_true', Bool.not_eq_false', rng_length, AT, AP]) (λ _ => FK rfl rfl) _
theorem BBO : AR Try.prog APO (C_Two.spec xC) := EX C_Two (λ _ => AVH) [] [] BAV (λ _ => by kernel_rfl) (λ _ => AM) (λ (x : One) _ => by
 show AWA x; rw [BAW]; simp only [BF, eq_self, implies_true, and_self, true_and, and_true, true_implies, forall_const, decide_eq_true_eq, decide_eq_false_iff_not, Int.toNat_natCast, dSpan_eSpan, dInt_eInt, AV, BH, BJ, BC, AZ, AX, AY, Nat.zero_add, Int.zero_sub, Nat.le_eq, Nat.succ_eq_add_one, Nat.add_one_le_iff, Bool.not_eq_true', Bool.not_eq_false', rng_length, AT, AP]
 repeat' apply And.intro
 all_goals decide +kernel) (λ _ => FK rfl rfl) _
end Go.Bal
