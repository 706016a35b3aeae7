/- Package chart: Same, One. -/
import Derived.Test.YtdbjalgfomknhaaChL
set_option linter.unusedVariables false
set_option linter.unusedSimpArgs false
namespace Go.Bal
open Go Go.Sym Go.Proofs
structure SS2 where
 l : List Span
 m : List Span
def dSS2 : List AVal -> Heap -> Option (SS2 × List (Nat × Nat) × List Nat)
 | [x, y], H => match YT x H, YT y H with
  | some (l, f), some (m, e) => some (⟨l, m⟩, [], f ++ e)
  | _, _ => none
 | _, _ => none
def eqN (f : Nat -> Bool) : Nat -> Bool
 | 0 => true
 | k + 1 => eqN f k && f k
def eqS (x : SS2) (i : Nat) : Bool := (gD x.l i).lo == (gD x.m i).lo && (gD x.l i).hi == (gD x.m i).hi
def samS (x : SS2) : Bool := x.l.length == x.m.length && eqN (eqS x) x.l.length
def C_samS : Ctr := { α := SS2, xs := λ x => [.d (AV x.l), .d (AV x.m)], val := λ x => .bool (samS x), keep := λ _ => [], pre := λ x => [x.l.length < 4611686018427387904 /\ x.m.length < 4611686018427387904] }
def sa4 (x : SS2) : Shape := { α := Nat, dflt := 0, T := λ k => ⟨[(0, .d (AV x.l)), (1, .d (AV x.m)), (5, .int k)], []⟩, inv := λ k => k <= x.l.length /\ eqN (eqS x) k = true, meas := λ k => x.l.length - k }
def CKP (x : SS2) : Ann := { ann 26 [] with loops := λ id => if id = 4 then some [sa4 x] else none }
def CFH (x : SS2) : Prop := AW Try.prog (CKP x) BTT (AK BTT) (C_samS.xs x) (AF []) (C_samS.val x) [] [] []
theorem COD (x : SS2) : (CFH x) = (bif (↑x.l.length : Int) != (↑x.m.length : Int) then samS x = false else (∃ (a : Nat), (x.l.length = x.l.length /\ (∀ (i : Nat), i < x.l.length -> (gD x.l i).lo = (gD x.l i).lo /\
 (gD x.l i).hi = (gD x.l i).hi) /\ x.m.length = x.m.length /\ (∀ (i : Nat), i < x.m.length -> (gD x.m i).lo = (gD x.m i).lo /\ (gD x.m i).hi = (gD x.m i).hi) /\ (↑a : Int) = 0) /\ a <= x.l.length /\ eqN (eqS x) a = true) /\ ∀ (a :
 Nat), a <= x.l.length /\ eqN (eqS x) a = true -> bif decide ((↑a : Int) < (↑x.l.length : Int)) then ((0 <= (↑a : Int) /\ (↑a : Int) < (↑x.l.length : Int)) /\ 0 <= (↑a : Int) /\ (↑a : Int) < (↑x.m.length : Int)) /\ bif !((gD x.l
 a).lo == (gD x.m a).lo && ((gD x.l a).hi == (gD x.m a).hi && true)) then samS x = false else ∃ (a_2 : Nat), (x.l.length = x.l.length /\ (∀ (i : Nat), i < x.l.length -> (gD x.l i).lo = (gD x.l i).lo /\ (gD x.l i).hi = (gD
 x.l i).hi) /\ x.m.length = x.m.length /\ (∀ (i : Nat), i < x.m.length -> (gD x.m i).lo = (gD x.m i).lo /\ (gD x.m i).hi = (gD x.m i).hi) /\ (↑a_2 : Int) = IntKind.i64.wrap ((↑a : Int) + 1)) /\ (a_2 <= x.l.length /\ eqN (eqS x)
 a_2 = true) /\ x.l.length - a_2 < x.l.length - a else samS x = true) := by kernel_rfl
theorem BYY {f : Nat -> Bool} : ∀ {n k : Nat}, k < n -> f k = false -> eqN f n = false
 | 0, k, h, _ => absurd h (Nat.not_lt_zero _)
 | n + 1, k, h, hg => by
  show (eqN f n && f n) = false
  by_cases e : k = n
  ·subst e; rw [hg, Bool.and_false]
  ·rw [BYY (show k < n by omega) hg]; rfl
theorem CLV {f : Nat -> Bool} {k : Nat} (h : eqN f k = true) (h2 : f k = true) : eqN f (k + 1) = true := by
 show (eqN f k && f k) = true
 rw [h, h2]; rfl
theorem CUG (x : SS2) (h : x.l.length < 4611686018427387904 /\ x.m.length < 4611686018427387904) : CFH x := by
 rw [COD]; simp only [CC, eq_self, implies_true, forall_const]
 refine ⟨λ hn => ?_, λ hn => ⟨⟨0, rfl, Nat.zero_le _, rfl⟩, ?_⟩⟩
 ·unfold samS
  have : (x.l.length == x.m.length) = false := by simp at hn ⊢; omega
  rw [this]; rfl
 ·have hl : (x.l.length == x.m.length) = true := by simp at hn ⊢; omega
  have hl2 : x.l.length = x.m.length := by simpa using hl
  rintro k ⟨hk, he⟩
  refine ⟨λ hlt => ⟨⟨⟨by omega, by omega⟩, by omega, by omega⟩, λ hc => ?_, λ hc => ⟨k + 1, by rw [CP (by omega) (by omega)]; rfl, ⟨by omega, CLV he ?_⟩, by omega⟩⟩, λ hge => ?_⟩
  ·unfold samS
   rw [BYY (f := eqS x) (show k < x.l.length by omega) (by rw [Bool.and_true] at hc; exact hc), Bool.and_false]
  ·rw [Bool.and_true] at hc; exact hc
  ·obtain rfl : k = x.l.length := by omega
   unfold samS; rw [hl, he]; rfl
theorem COQ : AL Try.prog BLK (C_samS.spec dSS2) := KV C_samS CKP [] [] CLX (λ _ => by kernel_rfl) (λ _ => AI) (λ (x : SS2) h => CUG x h) (λ _ => MD rfl rfl) _
structure PP2 where
 l : List Pr
 m : List Pr
def dPP2 : List AVal -> Heap -> Option (PP2 × List (Nat × Nat) × List Nat)
 | [x, y], H => match dPrs x H, dPrs y H with
  | some (l, f), some (m, e) => some (⟨l, m⟩, [], f ++ e)
  | _, _ => none
 | _, _ => none
def eqP (x : PP2) (i : Nat) : Bool := (gD x.l i).a == (gD x.m i).a && (gD x.l i).b == (gD x.m i).b
def samP (x : PP2) : Bool := x.l.length == x.m.length && eqN (eqP x) x.l.length
def C_samP : Ctr := { α := PP2, xs := λ x => [.d (ZA x.l), .d (ZA x.m)], val := λ x => .bool (samP x), keep := λ _ => [], pre := λ x => [x.l.length < 4611686018427387904 /\ x.m.length < 4611686018427387904] }
def sq4 (x : PP2) : Shape := { α := Nat, dflt := 0, T := λ k => ⟨[(0, .d (ZA x.l)), (1, .d (ZA x.m)), (5, .int k)], []⟩, inv := λ k => k <= x.l.length /\ eqN (eqP x) k = true, meas := λ k => x.l.length - k }
def CKY (x : PP2) : Ann := { ann 26 [] with loops := λ id => if id = 4 then some [sq4 x] else none }
def CFS (x : PP2) : Prop := AW Try.prog (CKY x) BLX (AK BLX) (C_samP.xs x) (AF []) (C_samP.val x) [] [] []
theorem COY (x : PP2) : (CFS x) = (bif (↑x.l.length : Int) != (↑x.m.length : Int) then samP x = false else (∃ (a : Nat), (x.l.length = x.l.length /\ (∀ (i : Nat), i < x.l.length -> (gD x.l i).a = (gD x.l i).a /\ (gD
 x.l i).b = (gD x.l i).b) /\ x.m.length = x.m.length /\ (∀ (i : Nat), i < x.m.length -> (gD x.m i).a = (gD x.m i).a /\ (gD x.m i).b = (gD x.m i).b) /\ (↑a : Int) = 0) /\ a <= x.l.length /\ eqN (eqP x) a = true) /\ ∀ (a : Nat), a <=
 x.l.length /\ eqN (eqP x) a = true -> bif decide ((↑a : Int) < (↑x.l.length : Int)) then ((0 <= (↑a : Int) /\ (↑a : Int) < (↑x.l.length : Int)) /\ 0 <= (↑a : Int) /\ (↑a : Int) < (↑x.m.length : Int)) /\ bif !((gD x.l a).a == (gD
 x.m a).a && ((gD x.l a).b == (gD x.m a).b && true)) then samP x = false else ∃ (a_2 : Nat), (x.l.length = x.l.length /\ (∀ (i : Nat), i < x.l.length -> (gD x.l i).a = (gD x.l i).a /\ (gD x.l i).b = (gD x.l i).b) /\
 x.m.length = x.m.length /\ (∀ (i : Nat), i < x.m.length -> (gD x.m i).a = (gD x.m i).a /\ (gD x.m i).b = (gD x.m i).b) /\ (↑a_2 : Int) = IntKind.i64.wrap ((↑a : Int) + 1)) /\ (a_2 <= x.l.length /\ eqN (eqP x) a_2 = true) /\
 x.l.length - a_2 < x.l.length - a else samP x = true) := by kernel_rfl
theorem CTR (x : PP2) (h : x.l.length < 4611686018427387904 /\ x.m.length < 4611686018427387904) : CFS x := by
 rw [COY]; simp only [CC, eq_self, implies_true, forall_const]
 refine ⟨λ hn => ?_, λ hn => ⟨⟨0, rfl, Nat.zero_le _, rfl⟩, ?_⟩⟩
 ·unfold samP
  have : (x.l.length == x.m.length) = false := by simp at hn ⊢; omega
  rw [this]; rfl
 ·have hl : (x.l.length == x.m.length) = true := by simp at hn ⊢; omega
  have hl2 : x.l.length = x.m.length := by simpa using hl
  rintro k ⟨hk, he⟩
  refine ⟨λ hlt => ⟨⟨⟨by omega, by omega⟩, by omega, by omega⟩, λ hc => ?_, λ hc => ⟨k + 1, by rw [CP (by omega) (by omega)]; rfl, ⟨by omega, CLV he ?_⟩, by omega⟩⟩, λ hge => ?_⟩
  ·unfold samP
   rw [BYY (f := eqP x) (show k < x.l.length by omega) (by rw [Bool.and_true] at hc; exact hc), Bool.and_false]
  ·rw [Bool.and_true] at hc; exact hc
  ·obtain rfl : k = x.l.length := by omega
   unfold samP; rw [hl, he]; rfl
theorem CNF : AL Try.prog BQW (C_samP.spec dPP2) := KV C_samP CKY [] [] CIH (λ _ => by kernel_rfl) (λ _ => AI) (λ (x : PP2) h => CTR x h) (λ _ => MD rfl rfl) _
def YS (x : I2) : Cht := ⟨⟨10, 12⟩, 500, 10, 5, [⟨0, 20⟩, ⟨10, 50⟩, ⟨30, 30⟩], [⟨0, ⟨0, 0⟩, ⟨0, 2000⟩⟩, ⟨2, ⟨x.a, x.b⟩, ⟨0, 2000⟩⟩]⟩
def CRP (x : I2) : Prop := AW Try.prog (ann 21 []) CJI (AK CJI) (xI2 x) (AF []) (.d (YV (YS x))) [] [] [3064, 3192]
theorem CUC (x : I2) : (CRP x) = ((YS x).p.lo = 10 /\ (YS x).p.hi = 12 /\ (YS x).base = 500 /\ (YS x).scale = 10 /\ (YS x).off = 5 /\ (YS x).ms.length = 3 /\ 3 <= 3 /\ (∀ (j : Nat), j < (YS x).ms.length -> ((gD
 (YS x).ms j).pl = bif decide (0 + j = 0) then 0 else bif decide (0 + j - 1 = 0) then 10 else 30) /\ (gD (YS x).ms j).ht = bif decide (0 + j = 0) then 20 else bif decide (0 + j - 1 = 0) then 50 else 30) /\ (YS
 x).ns.length = 2 /\ 2 <= 2 /\ ∀ (j : Nat), j < (YS x).ns.length -> ((gD (YS x).ns j).mi = bif decide (0 + j = 0) then 0 else 2) /\ ((gD (YS x).ns j).t.lo = bif decide (0 + j = 0) then 0 else x.a) /\ ((gD (YS x).ns
 j).t.hi = bif decide (0 + j = 0) then 0 else x.b) /\ ((gD (YS x).ns j).s.lo = bif decide (0 + j = 0) then 0 else 0) /\ (gD (YS x).ns j).s.hi = bif decide (0 + j = 0) then 2000 else 2000) := by kernel_rfl
def CRI := pD dI2 λ x => .d (YV (YS x))
theorem CWH : AL Try.prog CGP CRI := XE xI2 hI2 λ g _ => QX (A := ann 21 []) (ren := []) (fz := [3064, 3192]) CTP (by kernel_rfl) AI (by
 show CRP g; rw [CUC]; simp only [CC, eq_self, implies_true, forall_const]
 refine ⟨rfl, rfl, rfl, rfl, rfl, rfl, by decide, λ j hj => ?_, rfl, by decide, λ j hj => ?_⟩
 ·have hj : j < 3 := hj
  rcases j with _ | _ | _ | j
  ·exact ⟨rfl, rfl⟩
  ·exact ⟨rfl, rfl⟩
  ·exact ⟨rfl, rfl⟩
  ·omega
 ·have hj : j < 2 := hj
  rcases j with _ | _ | j
  ·exact ⟨rfl, rfl, rfl, rfl, rfl⟩
  ·exact ⟨rfl, rfl, rfl, rfl, rfl⟩
  ·omega)
def CBH : Ann := ann 249 [(CGP, CRI), (AUT, C_Stages.spec dC1), (AQH, C_Times.spec dCZ), (BLK, C_samS.spec dSS2), (APQ, C_Stops.spec dC1), (BOP, C_Pairs.spec dC1), (AZC, C_prov.spec dPrv), (BQW, C_samP.spec dPP2), (AOB, C_Stage.spec dCZI), (BKY, C_Peak.spec dCZ2), (BRE, C_First.spec dCZI)]
def CAW : Prop := AW Try.prog CBH BQC (AK BQC) [] (AF []) (.bool true) [] [] []
abbrev AZ : Prop := Int.ofNat (10 : Nat) = Int.ofNat (10 : Nat)
abbrev DD : Prop := Int.ofNat (12 : Nat) = Int.ofNat (12 : Nat)
abbrev DC : Prop := Int.ofNat (500 : Nat) = Int.ofNat (500 : Nat)
abbrev DB : Prop := Int.ofNat (5 : Nat) = Int.ofNat (5 : Nat)
abbrev BZ : Prop := (3 : Nat) = (3 : Nat)
abbrev z_awake_5 : Cht := YS (I2.mk (310 : Int) (320 : Int))
abbrev z_awake_6 : List Mk := z_awake_5.ms
abbrev aB (i : Nat) : Mk := gD z_awake_6 i
abbrev Y4 : List Mk := AE z_awake_6.length λ (i : Nat) => aB i
abbrev AAH (i : Nat) : Mk := gD Y4 i
abbrev FY : Prop := ∀ (i : Nat), i < (3 : Nat) -> (AAH i).pl = (aB i).pl /\ (AAH i).ht = (aB i).ht
abbrev CI : Prop := (2 : Nat) = (2 : Nat)
abbrev z_awake_12 : List Nt := z_awake_5.ns
abbrev SK (i : Nat) : Nt := gD z_awake_12 i
abbrev tR : List Nt := AE z_awake_12.length λ (i : Nat) => SK i
abbrev Gv (i : Nat) : Nt := gD tR i
abbrev oI (i : Nat) : Span := (Gv i).t
abbrev nP (i : Nat) : Span := (SK i).t
abbrev qQ (i : Nat) : Span := (Gv i).s
abbrev tG (i : Nat) : Span := (SK i).s
abbrev FX : Prop := ∀ (i : Nat), i < (2 : Nat) -> (Gv i).mi = (SK i).mi /\ (oI i).lo = (nP i).lo /\ (oI i).hi = (nP i).hi /\ (qQ i).lo = (tG i).lo /\
 (qQ i).hi = (tG i).hi
abbrev LX : Prop := (3 : Nat) < (4611686018427387904 : Nat)
abbrev Iv : Prop := (2 : Nat) < (4611686018427387904 : Nat)
abbrev qU : Prop := LX /\ Iv
abbrev CA : Prop := (0 : Nat) = (0 : Nat)
abbrev HQ : Prop := LX /\ Iv /\ (0 : Nat) < (4611686018427387904 : Nat)
abbrev rY : Prop := CA /\ CA /\ HQ
abbrev z_awake_27 : Cht := YS (I2.mk (300 : Int) (300 : Int))
abbrev z_awake_28 : List Mk := z_awake_27.ms
abbrev Ib (i : Nat) : Mk := gD z_awake_28 i
abbrev pG (i : Nat) : Mk := gD (AE z_awake_28.length λ (i : Nat) => Ib i) i
abbrev z_awake_31 : List Nt := z_awake_27.ns
abbrev RP (i : Nat) : Nt := gD z_awake_31 i
abbrev Eg (i : Nat) : Nt := gD (AE z_awake_31.length λ (i : Nat) => RP i) i
abbrev oD (i : Nat) : Span := (Eg i).t
abbrev kX (i : Nat) : Span := (RP i).t
abbrev jX (i : Nat) : Span := (Eg i).s
abbrev jH (i : Nat) : Span := (RP i).s
abbrev lU : Cht := Cht.mk z_awake_5.p z_awake_5.base z_awake_5.scale z_awake_5.off Y4 tR
abbrev z_awake_39 : List Span := (PK lU).fst
abbrev Gt (i : Nat) : Span := gD z_awake_39 i
abbrev pU (i : Nat) : Span := gD (AE z_awake_39.length λ (i : Nat) => Gt i) i
abbrev SR (i : Nat) : Bool := decide (i = (0 : Nat))
abbrev UB (i : Nat) : Bool := decide (i - (1 : Nat) = (0 : Nat))
abbrev kC (i : Nat) : Int := bif SR i then (695 : Int) else bif UB i then (995 : Int) else (795 : Int)
abbrev tB (i : Nat) : Int := bif SR i then (705 : Int) else bif UB i then (1005 : Int) else (805 : Int)
abbrev tO (i : Nat) : Span := gD (AE (3 : Nat) λ (i : Nat) => Span.mk (kC i) (tB i)) i
abbrev oU : Prop := LX /\ LX
abbrev z_awake_48 : List Span := (IT (CZ.mk lU (AE (0 : Nat) λ (i : Nat) => default))).fst
abbrev Fe (i : Nat) : Span := gD z_awake_48 i
abbrev sB (i : Nat) : Span := gD (AE z_awake_48.length λ (i : Nat) => Fe i) i
abbrev rN (i : Nat) : Int := bif SR i then (0 : Int) else bif UB i then (100 : Int) else (310 : Int)
abbrev sW (i : Nat) : Int := bif SR i then (0 : Int) else bif UB i then (120 : Int) else (320 : Int)
abbrev nT (i : Nat) : Span := gD (AE (3 : Nat) λ (i : Nat) => Span.mk (rN i) (sW i)) i
abbrev El : Prop := true = true -> (0 : Int) <= (1 : Int) /\ (1 : Int) < (↑(3 : Nat) : Int)
abbrev z_awake_55 : Cht := YS (I2.mk (400 : Int) (410 : Int))
abbrev z_awake_56 : List Mk := z_awake_55.ms
abbrev Gz (i : Nat) : Mk := gD z_awake_56 i
abbrev nR : List Mk := AE z_awake_56.length λ (i : Nat) => Gz i
abbrev kK (i : Nat) : Mk := gD nR i
abbrev UI : Prop := ∀ (i : Nat), i < (3 : Nat) -> (kK i).pl = (Gz i).pl /\ (kK i).ht = (Gz i).ht
abbrev z_awake_61 : List Nt := z_awake_55.ns
abbrev RV (i : Nat) : Nt := gD z_awake_61 i
abbrev qR : List Nt := AE z_awake_61.length λ (i : Nat) => RV i
abbrev Jn (i : Nat) : Nt := gD qR i
abbrev jV (i : Nat) : Span := (Jn i).t
abbrev lO (i : Nat) : Span := (RV i).t
abbrev jZ (i : Nat) : Span := (Jn i).s
abbrev rW (i : Nat) : Span := (RV i).s
abbrev TC : Prop := ∀ (i : Nat), i < (2 : Nat) -> (Jn i).mi = (RV i).mi /\ (jV i).lo = (lO i).lo /\ (jV i).hi = (lO i).hi /\ (jZ i).lo = (rW i).lo /\
 (jZ i).hi = (rW i).hi
abbrev lM : Prop := Int.ofNat (0 : Nat) = Int.ofNat (0 : Nat)
abbrev tI : Prop := AZ /\ DD /\ DC /\ AZ /\ DB /\ BZ /\ UI /\ CI /\ TC /\ qU /\ (lM -> (2 : Nat) <= (12 : Nat))
abbrev LR : Prop := (1 : Nat) = (1 : Nat)
abbrev Hm : Prop := (1 : Nat) <= (1 : Nat)
abbrev pI (j : Nat) : Pr := gD (AE (1 : Nat) λ (i : Nat) => dPr (gO [Sym.elemOf [ofV (Value.int IntKind.i64 (0 : Int)), ofV (Value.int IntKind.i64 (1 : Int))]] i)) j
abbrev hX : Prop := ∀ (j : Nat), j < (1 : Nat) -> (pI j).a = (0 : Int) /\ (pI j).b = (1 : Int)
abbrev Jt : Prop := (1 : Nat) < (4611686018427387904 : Nat)
abbrev Hb : Prop := LX /\ Iv /\ Jt
abbrev z_awake_78 : List Pr := (DA (Cht.mk z_awake_55.p z_awake_55.base z_awake_55.scale z_awake_55.off nR qR)).r
abbrev Em (i : Nat) : Pr := gD z_awake_78 i
abbrev nF (i : Nat) : Pr := gD (AE z_awake_78.length λ (i : Nat) => Em i) i
theorem CGR : (CAW) = ((AZ /\ DD /\ DC /\ AZ /\ DB /\ BZ /\ FY /\ CI /\ FX /\ qU) /\ (AZ /\ DD /\ DC /\ AZ /\ DB /\
 BZ /\ FY /\ CI /\ FX /\ rY) /\ (AZ /\ DD /\ DC /\ AZ /\ DB /\ BZ /\ (∀ (i : Nat), i < (3 : Nat) -> (pG i).pl = (Ib i).pl /\ (pG
 i).ht = (Ib i).ht) /\ CI /\ (∀ (i : Nat), i < (2 : Nat) -> (Eg i).mi = (RP i).mi /\ (oD i).lo = (kX i).lo /\ (oD i).hi = (kX i).hi /\ (jX i).lo =
 (jH i).lo /\ (jX i).hi = (jH i).hi) /\ rY) /\ ((true = true -> BZ /\ (∀ (i : Nat), i < (3 : Nat) -> (pU i).lo = (Gt i).lo /\ (pU i).hi = (Gt i).hi) /\
 BZ /\ (∀ (i : Nat), i < (3 : Nat) -> (tO i).lo = kC i /\ (tO i).hi = tB i) /\ oU) /\ (true = true -> BZ /\ (∀ (i : Nat), i < (3 : Nat) -> (sB i).lo = (Fe
 i).lo /\ (sB i).hi = (Fe i).hi) /\ BZ /\ (∀ (i : Nat), i < (3 : Nat) -> (nT i).lo = rN i /\ (nT i).hi = sW i) /\ oU) /\ El) /\ tI /\ tI /\
 (AZ /\ DD /\ DC /\ AZ /\ DB /\ BZ /\ UI /\ CI /\ TC /\ Int.ofNat (1 : Nat) = Int.ofNat (1 : Nat) /\ LR /\ Hm /\ hX /\ Hb) /\ (AZ
 /\ DD /\ DC /\ AZ /\ DB /\ BZ /\ UI /\ CI /\ TC /\ LR /\ Hm /\ (∀ (j : Nat), j < (1 : Nat) -> gD (AE (1 : Nat) λ (i : Nat) => (0 : Int)) j = (0 : Int)) /\
 Hb) /\ (AZ /\ DD /\ DC /\ AZ /\ DB /\ BZ /\ UI /\ CI /\ TC /\ LR /\ Hm /\ (∀ (j : Nat), j < (1 : Nat) -> gD (AE (1 : Nat) λ (i : Nat) => (1
 : Int)) j = (1 : Int)) /\ Hb) /\ ((true = true -> LR /\ (∀ (i : Nat), i < (1 : Nat) -> (nF i).a = (Em i).a /\ (nF i).b = (Em i).b) /\ LR /\ hX /\ Jt /\
 Jt) /\ El /\ El) /\ (AZ /\ DD /\ DC /\ AZ /\ DB /\ BZ /\ FY /\ CI /\ FX /\ CA /\ CA /\ Int.ofNat (50 : Nat) = Int.ofNat (50 :
 Nat) /\ HQ) /\ (AZ /\ DD /\ DC /\ AZ /\ DB /\ BZ /\ FY /\ CI /\ FX /\ CA /\ CA /\ Int.ofNat (320 : Nat) = Int.ofNat (320 : Nat) /\ HQ) /\
 (AZ /\ DD /\ DC /\ AZ /\ DB /\ BZ /\ FY /\ CI /\ FX /\ CA /\ CA /\ Int.ofNat (321 : Nat) = Int.ofNat (321 : Nat) /\ HQ) /\ (AZ /\
 DD /\ DC /\ AZ /\ DB /\ BZ /\ FY /\ CI /\ FX /\ CA /\ CA /\ lM /\ Int.ofNat (110 : Nat) = Int.ofNat (110 : Nat) /\ HQ) /\ (AZ /\
 DD /\ DC /\ AZ /\ DB /\ BZ /\ FY /\ CI /\ FX /\ CA /\ CA /\ Int.ofNat (1000 : Nat) = Int.ofNat (1000 : Nat) /\ HQ) /\ (AZ /\ DD /\
 DC /\ AZ /\ DB /\ BZ /\ FY /\ CI /\ FX /\ CA /\ CA /\ Int.ofNat (995 : Nat) = Int.ofNat (995 : Nat) /\ HQ) /\ true = true) := by kernel_rfl
def CCG : List AVal -> Option (AVal × List Prop)
 | [] => some (.bool true, [])
 | _ => none
def CCB : Sym.Spec := Nl CCG
theorem CPG : CAW := by
 rw [CGR]; delta AZ DD DC DB BZ z_awake_5 z_awake_6 aB Y4 AAH FY CI z_awake_12 SK tR Gv oI nP qQ tG FX LX Iv qU CA HQ rY z_awake_27 z_awake_28 Ib pG z_awake_31 RP Eg oD kX jX jH lU z_awake_39 Gt pU SR UB kC tB tO oU z_awake_48 Fe sB rN sW nT El z_awake_55 z_awake_56 Gz nR kK UI z_awake_61 RV qR Jn jV lO jZ rW TC lM tI LR Hm pI hX Jt Hb z_awake_78 Em nF; simp only [CC, eq_self, implies_true, forall_const]
 decide +kernel
theorem BUY : AL Try.prog BPF CCB := Xs λ xs v p h _ => by
 unfold CCG at h; split at h
 ·cases h; exact QX (A := CBH) (ren := []) (fz := []) CLF (by kernel_rfl) (AD CWH (AD CLA (AD AUZ (AD COQ (AD BDV (AD CGT (AD COX (AD CNF (AD ATJ (AD BNQ (AD CFM AI))))))))))) CPG
 ·cases h
end Go.Bal
