/- Package chart: Same, One. -/
import Derived.Test.YtdbjalgfomknhaaChL
set_option linter.unusedVariables false
set_option linter.unusedSimpArgs false
namespace Go.Bal
open Go Go.Sym Go.Proofs
structure SS2 where
 l : List Span
 m : List Span
def dSS2 : List AVal -> Heap -> Option (SS2 × List (Nat × Nat) × List Nat)
 | [x, y], H => match XV x H, XV y H with
  | some (l, f), some (m, e) => some (⟨l, m⟩, [], f ++ e)
  | _, _ => none
 | _, _ => none
def eqN (f : Nat -> Bool) : Nat -> Bool
 | 0 => true
 | k + 1 => eqN f k && f k
def eqS (x : SS2) (i : Nat) : Bool := (gD x.l i).lo == (gD x.m i).lo && (gD x.l i).hi == (gD x.m i).hi
def samS (x : SS2) : Bool := x.l.length == x.m.length && eqN (eqS x) x.l.length
def C_samS : Ctr := { α := SS2, xs := λ x => [.d (AX x.l), .d (AX x.m)], val := λ x => .bool (samS x), keep := λ _ => [], pre := λ x => [x.l.length < 4611686018427387904 /\ x.m.length < 4611686018427387904] }
def sa4 (x : SS2) : Shape := { α := Nat, dflt := 0, T := λ k => ⟨[(0, .d (AX x.l)), (1, .d (AX x.m)), (5, .int k)], []⟩, inv := λ k => k <= x.l.length /\ eqN (eqS x) k = true, meas := λ k => x.l.length - k }
def CNG (x : SS2) : Ann := { ann 26 [] with loops := λ id => if id = 4 then some [sa4 x] else none }
def CKK (x : SS2) : Prop := AZ Try.prog (CNG x) BTW (AL BTW) (C_samS.xs x) (AG []) (C_samS.val x) [] [] []
theorem CPN (x : SS2) : (CKK x) = (bif (↑x.l.length : Int) != (↑x.m.length : Int) then samS x = false else (∃ (a : Nat), (x.l.length = x.l.length /\ (∀ (i : Nat), i < x.l.length -> (gD x.l i).lo = (gD x.l i).lo /\
 (gD x.l i).hi = (gD x.l i).hi) /\ x.m.length = x.m.length /\ (∀ (i : Nat), i < x.m.length -> (gD x.m i).lo = (gD x.m i).lo /\ (gD x.m i).hi = (gD x.m i).hi) /\ (↑a : Int) = 0) /\ a <= x.l.length /\ eqN (eqS x) a = true) /\ ∀ (a :
 Nat), a <= x.l.length /\ eqN (eqS x) a = true -> bif decide ((↑a : Int) < (↑x.l.length : Int)) then ((0 <= (↑a : Int) /\ (↑a : Int) < (↑x.l.length : Int)) /\ 0 <= (↑a : Int) /\ (↑a : Int) < (↑x.m.length : Int)) /\ bif !((gD x.l
 a).lo == (gD x.m a).lo && ((gD x.l a).hi == (gD x.m a).hi && true)) then samS x = false else ∃ (a_2 : Nat), (x.l.length = x.l.length /\ (∀ (i : Nat), i < x.l.length -> (gD x.l i).lo = (gD x.l i).lo /\ (gD x.l i).hi = (gD
 x.l i).hi) /\ x.m.length = x.m.length /\ (∀ (i : Nat), i < x.m.length -> (gD x.m i).lo = (gD x.m i).lo /\ (gD x.m i).hi = (gD x.m i).hi) /\ (↑a_2 : Int) = IntKind.i64.wrap ((↑a : Int) + 1)) /\ (a_2 <= x.l.length /\ eqN (eqS x)
 a_2 = true) /\ x.l.length - a_2 < x.l.length - a else samS x = true) := by kernel_rfl
theorem BYY {f : Nat -> Bool} : ∀ {n k : Nat}, k < n -> f k = false -> eqN f n = false
 | 0, k, h, _ => absurd h (Nat.not_lt_zero _)
 | n + 1, k, h, hg => by
  show (eqN f n && f n) = false
  by_cases e : k = n
  ·subst e; rw [hg, Bool.and_false]
  ·rw [BYY (show k < n by omega) hg]; rfl
theorem CLX {f : Nat -> Bool} {k : Nat} (h : eqN f k = true) (h2 : f k = true) : eqN f (k + 1) = true := by
 show (eqN f k && f k) = true
 rw [h, h2]; rfl
theorem CXL (x : SS2) (h : x.l.length < 4611686018427387904 /\ x.m.length < 4611686018427387904) : CKK x := by
 rw [CPN]; simp only [CC, eq_self, implies_true, forall_const]
 refine ⟨λ hn => ?_, λ hn => ⟨⟨0, rfl, Nat.zero_le _, rfl⟩, ?_⟩⟩
 ·unfold samS
  have : (x.l.length == x.m.length) = false := by simp at hn ⊢; omega
  rw [this]; rfl
 ·have hl : (x.l.length == x.m.length) = true := by simp at hn ⊢; omega
  have hl2 : x.l.length = x.m.length := by simpa using hl
  rintro k ⟨hk, he⟩
  refine ⟨λ hlt => ⟨⟨⟨by omega, by omega⟩, by omega, by omega⟩, λ hc => ?_, λ hc => ⟨k + 1, by rw [FH (by omega) (by omega)]; rfl, ⟨by omega, CLX he ?_⟩, by omega⟩⟩, λ hge => ?_⟩
  ·unfold samS
   rw [BYY (f := eqS x) (show k < x.l.length by omega) (by rw [Bool.and_true] at hc; exact hc), Bool.and_false]
  ·rw [Bool.and_true] at hc; exact hc
  ·obtain rfl : k = x.l.length := by omega
   unfold samS; rw [hl, he]; rfl
theorem CDY : AM Try.prog ANV (C_samS.spec dSS2) := LF C_samS CNG [] [] CMS (λ _ => by kernel_rfl) (λ _ => AJ) (λ (x : SS2) h => CXL x h) (λ _ => NP rfl rfl) _
structure PP2 where
 l : List Pr
 m : List Pr
def dPP2 : List AVal -> Heap -> Option (PP2 × List (Nat × Nat) × List Nat)
 | [x, y], H => match dPrs x H, dPrs y H with
  | some (l, f), some (m, e) => some (⟨l, m⟩, [], f ++ e)
  | _, _ => none
 | _, _ => none
def eqP (x : PP2) (i : Nat) : Bool := (gD x.l i).a == (gD x.m i).a && (gD x.l i).b == (gD x.m i).b
def samP (x : PP2) : Bool := x.l.length == x.m.length && eqN (eqP x) x.l.length
def C_samP : Ctr := { α := PP2, xs := λ x => [.d (Cf x.l), .d (Cf x.m)], val := λ x => .bool (samP x), keep := λ _ => [], pre := λ x => [x.l.length < 4611686018427387904 /\ x.m.length < 4611686018427387904] }
def sq4 (x : PP2) : Shape := { α := Nat, dflt := 0, T := λ k => ⟨[(0, .d (Cf x.l)), (1, .d (Cf x.m)), (5, .int k)], []⟩, inv := λ k => k <= x.l.length /\ eqN (eqP x) k = true, meas := λ k => x.l.length - k }
def CJP (x : PP2) : Ann := { ann 26 [] with loops := λ id => if id = 4 then some [sq4 x] else none }
def CMN (x : PP2) : Prop := AZ Try.prog (CJP x) BLT (AL BLT) (C_samP.xs x) (AG []) (C_samP.val x) [] [] []
theorem COT (x : PP2) : (CMN x) = (bif (↑x.l.length : Int) != (↑x.m.length : Int) then samP x = false else (∃ (a : Nat), (x.l.length = x.l.length /\ (∀ (i : Nat), i < x.l.length -> (gD x.l i).a = (gD x.l i).a /\ (gD
 x.l i).b = (gD x.l i).b) /\ x.m.length = x.m.length /\ (∀ (i : Nat), i < x.m.length -> (gD x.m i).a = (gD x.m i).a /\ (gD x.m i).b = (gD x.m i).b) /\ (↑a : Int) = 0) /\ a <= x.l.length /\ eqN (eqP x) a = true) /\ ∀ (a : Nat), a <=
 x.l.length /\ eqN (eqP x) a = true -> bif decide ((↑a : Int) < (↑x.l.length : Int)) then ((0 <= (↑a : Int) /\ (↑a : Int) < (↑x.l.length : Int)) /\ 0 <= (↑a : Int) /\ (↑a : Int) < (↑x.m.length : Int)) /\ bif !((gD x.l a).a == (gD
 x.m a).a && ((gD x.l a).b == (gD x.m a).b && true)) then samP x = false else ∃ (a_2 : Nat), (x.l.length = x.l.length /\ (∀ (i : Nat), i < x.l.length -> (gD x.l i).a = (gD x.l i).a /\ (gD x.l i).b = (gD x.l i).b) /\
 x.m.length = x.m.length /\ (∀ (i : Nat), i < x.m.length -> (gD x.m i).a = (gD x.m i).a /\ (gD x.m i).b = (gD x.m i).b) /\ (↑a_2 : Int) = IntKind.i64.wrap ((↑a : Int) + 1)) /\ (a_2 <= x.l.length /\ eqN (eqP x) a_2 = true) /\
 x.l.length - a_2 < x.l.length - a else samP x = true) := by kernel_rfl
theorem CWC (x : PP2) (h : x.l.length < 4611686018427387904 /\ x.m.length < 4611686018427387904) : CMN x := by
 rw [COT]; simp only [CC, eq_self, implies_true, forall_const]
 refine ⟨λ hn => ?_, λ hn => ⟨⟨0, rfl, Nat.zero_le _, rfl⟩, ?_⟩⟩
 ·unfold samP
  have : (x.l.length == x.m.length) = false := by simp at hn ⊢; omega
  rw [this]; rfl
 ·have hl : (x.l.length == x.m.length) = true := by simp at hn ⊢; omega
  have hl2 : x.l.length = x.m.length := by simpa using hl
  rintro k ⟨hk, he⟩
  refine ⟨λ hlt => ⟨⟨⟨by omega, by omega⟩, by omega, by omega⟩, λ hc => ?_, λ hc => ⟨k + 1, by rw [FH (by omega) (by omega)]; rfl, ⟨by omega, CLX he ?_⟩, by omega⟩⟩, λ hge => ?_⟩
  ·unfold samP
   rw [BYY (f := eqP x) (show k < x.l.length by omega) (by rw [Bool.and_true] at hc; exact hc), Bool.and_false]
  ·rw [Bool.and_true] at hc; exact hc
  ·obtain rfl : k = x.l.length := by omega
   unfold samP; rw [hl, he]; rfl
theorem CQZ : AM Try.prog BTB (C_samP.spec dPP2) := LF C_samP CJP [] [] CJO (λ _ => by kernel_rfl) (λ _ => AJ) (λ (x : PP2) h => CWC x h) (λ _ => NP rfl rfl) _
def XT (x : I2) : Cht := ⟨⟨10, 12⟩, 500, 10, 5, [⟨0, 20⟩, ⟨10, 50⟩, ⟨30, 30⟩], [⟨0, ⟨0, 0⟩, ⟨0, 2000⟩⟩, ⟨2, ⟨x.a, x.b⟩, ⟨0, 2000⟩⟩]⟩
def CUF (x : I2) : Prop := AZ Try.prog (ann 21 []) CIA (AL CIA) (xI2 x) (AG []) (.d (XX (XT x))) [] [] [3064, 3192]
theorem CVH (x : I2) : (CUF x) = ((XT x).p.lo = 10 /\ (XT x).p.hi = 12 /\ (XT x).base = 500 /\ (XT x).scale = 10 /\ (XT x).off = 5 /\ (XT x).ms.length = 3 /\ 3 <= 3 /\ (∀ (j : Nat), j < (XT x).ms.length -> ((gD
 (XT x).ms j).pl = bif decide (0 + j = 0) then 0 else bif decide (0 + j - 1 = 0) then 10 else 30) /\ (gD (XT x).ms j).ht = bif decide (0 + j = 0) then 20 else bif decide (0 + j - 1 = 0) then 50 else 30) /\ (XT
 x).ns.length = 2 /\ 2 <= 2 /\ ∀ (j : Nat), j < (XT x).ns.length -> ((gD (XT x).ns j).mi = bif decide (0 + j = 0) then 0 else 2) /\ ((gD (XT x).ns j).t.lo = bif decide (0 + j = 0) then 0 else x.a) /\ ((gD (XT x).ns
 j).t.hi = bif decide (0 + j = 0) then 0 else x.b) /\ ((gD (XT x).ns j).s.lo = bif decide (0 + j = 0) then 0 else 0) /\ (gD (XT x).ns j).s.hi = bif decide (0 + j = 0) then 2000 else 2000) := by kernel_rfl
def CTH := pD dI2 λ x => .d (XX (XT x))
theorem CWG : AM Try.prog CJJ CTH := XN xI2 hI2 λ g _ => UO (A := ann 21 []) (ren := []) (fz := [3064, 3192]) CXG (by kernel_rfl) AJ (by
 show CUF g; rw [CVH]; simp only [CC, eq_self, implies_true, forall_const]
 refine ⟨rfl, rfl, rfl, rfl, rfl, rfl, by decide, λ j hj => ?_, rfl, by decide, λ j hj => ?_⟩
 ·have hj : j < 3 := hj
  rcases j with _ | _ | _ | j
  ·exact ⟨rfl, rfl⟩
  ·exact ⟨rfl, rfl⟩
  ·exact ⟨rfl, rfl⟩
  ·omega
 ·have hj : j < 2 := hj
  rcases j with _ | _ | j
  ·exact ⟨rfl, rfl, rfl, rfl, rfl⟩
  ·exact ⟨rfl, rfl, rfl, rfl, rfl⟩
  ·omega)
def CDD : Ann := ann 249 [(CJJ, CTH), (AZQ, C_Stages.spec dC1), (ANO, C_Times.spec dCZ), (ANV, C_samS.spec dSS2), (BOT, C_Stops.spec dC1), (BLN, C_Pairs.spec dC1), (BBI, C_prov.spec dPrv), (BTB, C_samP.spec dPP2), (AON, C_Stage.spec dCZI), (CAM, C_Peak.spec dCZ2), (BLG, C_First.spec dCZI)]
def CCO : Prop := AZ Try.prog CDD BPC (AL BPC) [] (AG []) (.bool true) [] [] []
abbrev BD : Prop := Int.ofNat (10 : Nat) = Int.ofNat (10 : Nat)
abbrev DW : Prop := Int.ofNat (12 : Nat) = Int.ofNat (12 : Nat)
abbrev DV : Prop := Int.ofNat (500 : Nat) = Int.ofNat (500 : Nat)
abbrev DU : Prop := Int.ofNat (5 : Nat) = Int.ofNat (5 : Nat)
abbrev CP : Prop := (3 : Nat) = (3 : Nat)
abbrev z_awake_5 : Cht := XT (I2.mk (310 : Int) (320 : Int))
abbrev z_awake_6 : List Mk := z_awake_5.ms
abbrev Ym (i : Nat) : Mk := gD z_awake_6 i
abbrev AIO : List Mk := AE z_awake_6.length λ (i : Nat) => Ym i
abbrev AIA (i : Nat) : Mk := gD AIO i
abbrev GI : Prop := ∀ (i : Nat), i < (3 : Nat) -> (AIA i).pl = (Ym i).pl /\ (AIA i).ht = (Ym i).ht
abbrev DB : Prop := (2 : Nat) = (2 : Nat)
abbrev z_awake_12 : List Nt := z_awake_5.ns
abbrev TT (i : Nat) : Nt := gD z_awake_12 i
abbrev oZ : List Nt := AE z_awake_12.length λ (i : Nat) => TT i
abbrev Dn (i : Nat) : Nt := gD oZ i
abbrev rN (i : Nat) : Span := (Dn i).t
abbrev qW (i : Nat) : Span := (TT i).t
abbrev rV (i : Nat) : Span := (Dn i).s
abbrev lI (i : Nat) : Span := (TT i).s
abbrev GP : Prop := ∀ (i : Nat), i < (2 : Nat) -> (Dn i).mi = (TT i).mi /\ (rN i).lo = (qW i).lo /\ (rN i).hi = (qW i).hi /\ (rV i).lo = (lI i).lo /\
 (rV i).hi = (lI i).hi
abbrev NF : Prop := (3 : Nat) < (4611686018427387904 : Nat)
abbrev Ey : Prop := (2 : Nat) < (4611686018427387904 : Nat)
abbrev gV : Prop := NF /\ Ey
abbrev CR : Prop := (0 : Nat) = (0 : Nat)
abbrev HZ : Prop := NF /\ Ey /\ (0 : Nat) < (4611686018427387904 : Nat)
abbrev rE : Prop := CR /\ CR /\ HZ
abbrev z_awake_27 : Cht := XT (I2.mk (300 : Int) (300 : Int))
abbrev z_awake_28 : List Mk := z_awake_27.ms
abbrev Gd (i : Nat) : Mk := gD z_awake_28 i
abbrev nQ (i : Nat) : Mk := gD (AE z_awake_28.length λ (i : Nat) => Gd i) i
abbrev z_awake_31 : List Nt := z_awake_27.ns
abbrev SR (i : Nat) : Nt := gD z_awake_31 i
abbrev Hi (i : Nat) : Nt := gD (AE z_awake_31.length λ (i : Nat) => SR i) i
abbrev fO (i : Nat) : Span := (Hi i).t
abbrev gP (i : Nat) : Span := (SR i).t
abbrev kT (i : Nat) : Span := (Hi i).s
abbrev mU (i : Nat) : Span := (SR i).s
abbrev jP : Cht := Cht.mk z_awake_5.p z_awake_5.base z_awake_5.scale z_awake_5.off AIO oZ
abbrev z_awake_39 : List Span := (PU jP).fst
abbrev Ez (i : Nat) : Span := gD z_awake_39 i
abbrev iI (i : Nat) : Span := gD (AE z_awake_39.length λ (i : Nat) => Ez i) i
abbrev TI (i : Nat) : Bool := decide (i = (0 : Nat))
abbrev SJ (i : Nat) : Bool := decide (i - (1 : Nat) = (0 : Nat))
abbrev sH (i : Nat) : Int := bif TI i then (695 : Int) else bif SJ i then (995 : Int) else (795 : Int)
abbrev pW (i : Nat) : Int := bif TI i then (705 : Int) else bif SJ i then (1005 : Int) else (805 : Int)
abbrev pU (i : Nat) : Span := gD (AE (3 : Nat) λ (i : Nat) => Span.mk (sH i) (pW i)) i
abbrev kF : Prop := NF /\ NF
abbrev z_awake_48 : List Span := (Ci (CZ.mk jP (AE (0 : Nat) λ (i : Nat) => default))).fst
abbrev Il (i : Nat) : Span := gD z_awake_48 i
abbrev jJ (i : Nat) : Span := gD (AE z_awake_48.length λ (i : Nat) => Il i) i
abbrev kM (i : Nat) : Int := bif TI i then (0 : Int) else bif SJ i then (100 : Int) else (310 : Int)
abbrev rY (i : Nat) : Int := bif TI i then (0 : Int) else bif SJ i then (120 : Int) else (320 : Int)
abbrev nK (i : Nat) : Span := gD (AE (3 : Nat) λ (i : Nat) => Span.mk (kM i) (rY i)) i
abbrev Ik : Prop := true = true -> (0 : Int) <= (1 : Int) /\ (1 : Int) < (↑(3 : Nat) : Int)
abbrev z_awake_55 : Cht := XT (I2.mk (400 : Int) (410 : Int))
abbrev z_awake_56 : List Mk := z_awake_55.ms
abbrev Ij (i : Nat) : Mk := gD z_awake_56 i
abbrev qU : List Mk := AE z_awake_56.length λ (i : Nat) => Ij i
abbrev iC (i : Nat) : Mk := gD qU i
abbrev TZ : Prop := ∀ (i : Nat), i < (3 : Nat) -> (iC i).pl = (Ij i).pl /\ (iC i).ht = (Ij i).ht
abbrev z_awake_61 : List Nt := z_awake_55.ns
abbrev TP (i : Nat) : Nt := gD z_awake_61 i
abbrev gE : List Nt := AE z_awake_61.length λ (i : Nat) => TP i
abbrev Dg (i : Nat) : Nt := gD gE i
abbrev fS (i : Nat) : Span := (Dg i).t
abbrev qQ (i : Nat) : Span := (TP i).t
abbrev mZ (i : Nat) : Span := (Dg i).s
abbrev lF (i : Nat) : Span := (TP i).s
abbrev UM : Prop := ∀ (i : Nat), i < (2 : Nat) -> (Dg i).mi = (TP i).mi /\ (fS i).lo = (qQ i).lo /\ (fS i).hi = (qQ i).hi /\ (mZ i).lo = (lF i).lo /\
 (mZ i).hi = (lF i).hi
abbrev lU : Prop := Int.ofNat (0 : Nat) = Int.ofNat (0 : Nat)
abbrev pM : Prop := BD /\ DW /\ DV /\ BD /\ DU /\ CP /\ TZ /\ DB /\ UM /\ gV /\ (lU -> (2 : Nat) <= (12 : Nat))
abbrev MP : Prop := (1 : Nat) = (1 : Nat)
abbrev Hy : Prop := (1 : Nat) <= (1 : Nat)
abbrev pH (j : Nat) : Pr := gD (AE (1 : Nat) λ (i : Nat) => dPr (fI [Sym.elemOf [ofV (Value.int IntKind.i64 (0 : Int)), ofV (Value.int IntKind.i64 (1 : Int))]] i)) j
abbrev fP : Prop := ∀ (j : Nat), j < (1 : Nat) -> (pH j).a = (0 : Int) /\ (pH j).b = (1 : Int)
abbrev Fr : Prop := (1 : Nat) < (4611686018427387904 : Nat)
abbrev Gm : Prop := NF /\ Ey /\ Fr
abbrev z_awake_78 : List Pr := (JC (Cht.mk z_awake_55.p z_awake_55.base z_awake_55.scale z_awake_55.off qU gE)).r
abbrev Hv (i : Nat) : Pr := gD z_awake_78 i
abbrev lY (i : Nat) : Pr := gD (AE z_awake_78.length λ (i : Nat) => Hv i) i
theorem CND : (CCO) = ((BD /\ DW /\ DV /\ BD /\ DU /\ CP /\ GI /\ DB /\ GP /\ gV) /\ (BD /\ DW /\ DV /\ BD /\ DU /\
 CP /\ GI /\ DB /\ GP /\ rE) /\ (BD /\ DW /\ DV /\ BD /\ DU /\ CP /\ (∀ (i : Nat), i < (3 : Nat) -> (nQ i).pl = (Gd i).pl /\ (nQ
 i).ht = (Gd i).ht) /\ DB /\ (∀ (i : Nat), i < (2 : Nat) -> (Hi i).mi = (SR i).mi /\ (fO i).lo = (gP i).lo /\ (fO i).hi = (gP i).hi /\ (kT i).lo =
 (mU i).lo /\ (kT i).hi = (mU i).hi) /\ rE) /\ ((true = true -> CP /\ (∀ (i : Nat), i < (3 : Nat) -> (iI i).lo = (Ez i).lo /\ (iI i).hi = (Ez i).hi) /\
 CP /\ (∀ (i : Nat), i < (3 : Nat) -> (pU i).lo = sH i /\ (pU i).hi = pW i) /\ kF) /\ (true = true -> CP /\ (∀ (i : Nat), i < (3 : Nat) -> (jJ i).lo = (Il
 i).lo /\ (jJ i).hi = (Il i).hi) /\ CP /\ (∀ (i : Nat), i < (3 : Nat) -> (nK i).lo = kM i /\ (nK i).hi = rY i) /\ kF) /\ Ik) /\ pM /\ pM /\
 (BD /\ DW /\ DV /\ BD /\ DU /\ CP /\ TZ /\ DB /\ UM /\ Int.ofNat (1 : Nat) = Int.ofNat (1 : Nat) /\ MP /\ Hy /\ fP /\ Gm) /\ (BD
 /\ DW /\ DV /\ BD /\ DU /\ CP /\ TZ /\ DB /\ UM /\ MP /\ Hy /\ (∀ (j : Nat), j < (1 : Nat) -> gD (AE (1 : Nat) λ (i : Nat) => (0 : Int)) j = (0 : Int)) /\
 Gm) /\ (BD /\ DW /\ DV /\ BD /\ DU /\ CP /\ TZ /\ DB /\ UM /\ MP /\ Hy /\ (∀ (j : Nat), j < (1 : Nat) -> gD (AE (1 : Nat) λ (i : Nat) => (1
 : Int)) j = (1 : Int)) /\ Gm) /\ ((true = true -> MP /\ (∀ (i : Nat), i < (1 : Nat) -> (lY i).a = (Hv i).a /\ (lY i).b = (Hv i).b) /\ MP /\ fP /\ Fr /\
 Fr) /\ Ik /\ Ik) /\ (BD /\ DW /\ DV /\ BD /\ DU /\ CP /\ GI /\ DB /\ GP /\ CR /\ CR /\ Int.ofNat (50 : Nat) = Int.ofNat (50 :
 Nat) /\ HZ) /\ (BD /\ DW /\ DV /\ BD /\ DU /\ CP /\ GI /\ DB /\ GP /\ CR /\ CR /\ Int.ofNat (320 : Nat) = Int.ofNat (320 : Nat) /\ HZ) /\
 (BD /\ DW /\ DV /\ BD /\ DU /\ CP /\ GI /\ DB /\ GP /\ CR /\ CR /\ Int.ofNat (321 : Nat) = Int.ofNat (321 : Nat) /\ HZ) /\ (BD /\
 DW /\ DV /\ BD /\ DU /\ CP /\ GI /\ DB /\ GP /\ CR /\ CR /\ lU /\ Int.ofNat (110 : Nat) = Int.ofNat (110 : Nat) /\ HZ) /\ (BD /\
 DW /\ DV /\ BD /\ DU /\ CP /\ GI /\ DB /\ GP /\ CR /\ CR /\ Int.ofNat (1000 : Nat) = Int.ofNat (1000 : Nat) /\ HZ) /\ (BD /\ DW /\
 DV /\ BD /\ DU /\ CP /\ GI /\ DB /\ GP /\ CR /\ CR /\ Int.ofNat (995 : Nat) = Int.ofNat (995 : Nat) /\ HZ) /\ true = true) := by kernel_rfl
def CEO : List AVal -> Option (AVal × List Prop)
 | [] => some (.bool true, [])
 | _ => none
def CCN : Sym.Spec := Ro CEO
theorem CPP : CCO := by
 rw [CND]; delta BD DW DV DU CP z_awake_5 z_awake_6 Ym AIO AIA GI DB z_awake_12 TT oZ Dn rN qW rV lI GP NF Ey gV CR HZ rE z_awake_27 z_awake_28 Gd nQ z_awake_31 SR Hi fO gP kT mU jP z_awake_39 Ez iI TI SJ sH pW pU kF z_awake_48 Il jJ kM rY nK Ik z_awake_55 z_awake_56 Ij qU iC TZ z_awake_61 TP gE Dg fS qQ mZ lF UM lU pM MP Hy pH fP Fr Gm z_awake_78 Hv lY; simp only [CC, eq_self, implies_true, forall_const]
 decide +kernel
theorem CLM : AM Try.prog BMY CCN := Qw λ xs v p h _ => by
 unfold CEO at h; split at h
 ·cases h; exact UO (A := CDD) (ren := []) (fz := []) COD (by kernel_rfl) (AC CWG (AC CLW (AC BYB (AC CDY (AC CNN (AC CJD (AC CRH (AC CQZ (AC BWL (AC CPE (AC CLY AJ))))))))))) CPP
 ·cases h
end Go.Bal
