/- Package chart: Same, One. -/
import Derived.Test.YtdbjalgfomknhaaChL
set_option linter.unusedVariables false
set_option linter.unusedSimpArgs false
namespace Go.Bal
open Go Go.Sym Go.Proofs
structure SS2 where
 l : List Span
 m : List Span
def dSS2 : List AVal -> Heap -> Option (SS2 × List (Nat × Nat) × List Nat)
 | [x, y], H => match dSpans x H, dSpans y H with
  | some (l, f), some (m, e) => some (⟨l, m⟩, [], f ++ e)
  | _, _ => none
 | _, _ => none
def eqN (f : Nat -> Bool) : Nat -> Bool
 | 0 => true
 | k + 1 => eqN f k && f k
def eqS (x : SS2) (i : Nat) : Bool := (gD x.l i).lo == (gD x.m i).lo && (gD x.l i).hi == (gD x.m i).hi
def samS (x : SS2) : Bool := x.l.length == x.m.length && eqN (eqS x) x.l.length
def C_samS : Ctr := { α := SS2, xs := λ x => [.d (eSpans x.l), .d (eSpans x.m)], val := λ x => .bool (samS x), keep := λ _ => [], pre := λ x => [x.l.length < 4611686018427387904 /\ x.m.length < 4611686018427387904] }
def sa4 (x : SS2) : Shape := { α := Nat, dflt := 0, T := λ k => ⟨[(0, .d (eSpans x.l)), (1, .d (eSpans x.m)), (5, .int k)], []⟩, inv := λ k => k <= x.l.length /\ eqN (eqS x) k = true, meas := λ k => x.l.length - k }
def A_samS (x : SS2) : Ann := { ann 26 [] with loops := λ id => if id = 4 then some [sa4 x] else none }
def V_samS (x : SS2) : Prop := fnVC Try.prog (A_samS x) F_sameS (bodyOf F_sameS) (C_samS.xs x) (heapOf []) (C_samS.val x) [] [] []
theorem vc_samS (x : SS2) : (V_samS x) = (bif (↑x.l.length : Int) != (↑x.m.length : Int) then samS x = false else (∃ (a : Nat), (x.l.length = x.l.length /\ (∀ (i : Nat), i < x.l.length -> (gD x.l i).lo = (gD x.l i).lo /\
 (gD x.l i).hi = (gD x.l i).hi) /\ x.m.length = x.m.length /\ (∀ (i : Nat), i < x.m.length -> (gD x.m i).lo = (gD x.m i).lo /\ (gD x.m i).hi = (gD x.m i).hi) /\ (↑a : Int) = 0) /\ a <= x.l.length /\ eqN (eqS x) a = true) /\ ∀ (a :
 Nat), a <= x.l.length /\ eqN (eqS x) a = true -> bif decide ((↑a : Int) < (↑x.l.length : Int)) then ((0 <= (↑a : Int) /\ (↑a : Int) < (↑x.l.length : Int)) /\ 0 <= (↑a : Int) /\ (↑a : Int) < (↑x.m.length : Int)) /\ bif !((gD x.l
 a).lo == (gD x.m a).lo && ((gD x.l a).hi == (gD x.m a).hi && true)) then samS x = false else ∃ (a_2 : Nat), (x.l.length = x.l.length /\ (∀ (i : Nat), i < x.l.length -> (gD x.l i).lo = (gD x.l i).lo /\ (gD x.l i).hi = (gD
 x.l i).hi) /\ x.m.length = x.m.length /\ (∀ (i : Nat), i < x.m.length -> (gD x.m i).lo = (gD x.m i).lo /\ (gD x.m i).hi = (gD x.m i).hi) /\ (↑a_2 : Int) = IntKind.i64.wrap ((↑a : Int) + 1)) /\ (a_2 <= x.l.length /\ eqN (eqS x)
 a_2 = true) /\ x.l.length - a_2 < x.l.length - a else samS x = true) := by kernel_rfl
theorem eqN_no {f : Nat -> Bool} : ∀ {n k : Nat}, k < n -> f k = false -> eqN f n = false
 | 0, k, h, _ => absurd h (Nat.not_lt_zero _)
 | n + 1, k, h, hg => by
  show (eqN f n && f n) = false
  by_cases e : k = n
  ·subst e; rw [hg, Bool.and_false]
  ·rw [eqN_no (show k < n by omega) hg]; rfl
theorem eqN_up {f : Nat -> Bool} {k : Nat} (h : eqN f k = true) (h2 : f k = true) : eqN f (k + 1) = true := by
 show (eqN f k && f k) = true
 rw [h, h2]; rfl
theorem p_samS (x : SS2) (h : x.l.length < 4611686018427387904 /\ x.m.length < 4611686018427387904) : V_samS x := by
 rw [vc_samS]; simp only [condP, eq_self, implies_true, and_self, true_and, and_true, true_implies, forall_const, decide_eq_true_eq, decide_eq_false_iff_not, Int.toNat_natCast, dSpan_eSpan, dInt_eInt, dMk_e, dNt_e, dPr_e, Nat.zero_add, Int.zero_sub, Nat.le_eq, Nat.succ_eq_add_one, Nat.add_one_le_iff, Bool.not_eq_true', Bool.not_eq_false', rng_length, dSpan_mk, rng_getD]
 refine ⟨λ hn => ?_, λ hn => ⟨⟨0, rfl, Nat.zero_le _, rfl⟩, ?_⟩⟩
 ·unfold samS
  have : (x.l.length == x.m.length) = false := by simp at hn ⊢; omega
  rw [this]; rfl
 ·have hl : (x.l.length == x.m.length) = true := by simp at hn ⊢; omega
  have hl2 : x.l.length = x.m.length := by simpa using hl
  rintro k ⟨hk, he⟩
  refine ⟨λ hlt => ⟨⟨⟨by omega, by omega⟩, by omega, by omega⟩, λ hc => ?_, λ hc => ⟨k + 1, by rw [w64 (by omega) (by omega)]; rfl, ⟨by omega, eqN_up he ?_⟩, by omega⟩⟩, λ hge => ?_⟩
  ·unfold samS
   rw [eqN_no (f := eqS x) (show k < x.l.length by omega) (by rw [Bool.and_true] at hc; exact hc), Bool.and_false]
  ·rw [Bool.and_true] at hc; exact hc
  ·obtain rfl : k = x.l.length := by omega
   unfold samS; rw [hl, he]; rfl
theorem ok_samS : SpecOk Try.prog n_sameS (C_samS.spec dSS2) := okC C_samS A_samS [] [] fn_sameS (λ _ => by kernel_rfl) (λ _ => gok_nil) (λ (x : SS2) h => p_samS x h) (λ _ => noI rfl rfl) _
structure PP2 where
 l : List Pr
 m : List Pr
def dPP2 : List AVal -> Heap -> Option (PP2 × List (Nat × Nat) × List Nat)
 | [x, y], H => match dPrs x H, dPrs y H with
  | some (l, f), some (m, e) => some (⟨l, m⟩, [], f ++ e)
  | _, _ => none
 | _, _ => none
def eqP (x : PP2) (i : Nat) : Bool := (gD x.l i).a == (gD x.m i).a && (gD x.l i).b == (gD x.m i).b
def samP (x : PP2) : Bool := x.l.length == x.m.length && eqN (eqP x) x.l.length
def C_samP : Ctr := { α := PP2, xs := λ x => [.d (ePrs x.l), .d (ePrs x.m)], val := λ x => .bool (samP x), keep := λ _ => [], pre := λ x => [x.l.length < 4611686018427387904 /\ x.m.length < 4611686018427387904] }
def sq4 (x : PP2) : Shape := { α := Nat, dflt := 0, T := λ k => ⟨[(0, .d (ePrs x.l)), (1, .d (ePrs x.m)), (5, .int k)], []⟩, inv := λ k => k <= x.l.length /\ eqN (eqP x) k = true, meas := λ k => x.l.length - k }
def A_samP (x : PP2) : Ann := { ann 26 [] with loops := λ id => if id = 4 then some [sq4 x] else none }
def V_samP (x : PP2) : Prop := fnVC Try.prog (A_samP x) F_sameP (bodyOf F_sameP) (C_samP.xs x) (heapOf []) (C_samP.val x) [] [] []
theorem vc_samP (x : PP2) : (V_samP x) = (bif (↑x.l.length : Int) != (↑x.m.length : Int) then samP x = false else (∃ (a : Nat), (x.l.length = x.l.length /\ (∀ (i : Nat), i < x.l.length -> (gD x.l i).a = (gD x.l i).a /\ (gD
 x.l i).b = (gD x.l i).b) /\ x.m.length = x.m.length /\ (∀ (i : Nat), i < x.m.length -> (gD x.m i).a = (gD x.m i).a /\ (gD x.m i).b = (gD x.m i).b) /\ (↑a : Int) = 0) /\ a <= x.l.length /\ eqN (eqP x) a = true) /\ ∀ (a : Nat), a <=
 x.l.length /\ eqN (eqP x) a = true -> bif decide ((↑a : Int) < (↑x.l.length : Int)) then ((0 <= (↑a : Int) /\ (↑a : Int) < (↑x.l.length : Int)) /\ 0 <= (↑a : Int) /\ (↑a : Int) < (↑x.m.length : Int)) /\ bif !((gD x.l a).a == (gD
 x.m a).a && ((gD x.l a).b == (gD x.m a).b && true)) then samP x = false else ∃ (a_2 : Nat), (x.l.length = x.l.length /\ (∀ (i : Nat), i < x.l.length -> (gD x.l i).a = (gD x.l i).a /\ (gD x.l i).b = (gD x.l i).b) /\
 x.m.length = x.m.length /\ (∀ (i : Nat), i < x.m.length -> (gD x.m i).a = (gD x.m i).a /\ (gD x.m i).b = (gD x.m i).b) /\ (↑a_2 : Int) = IntKind.i64.wrap ((↑a : Int) + 1)) /\ (a_2 <= x.l.length /\ eqN (eqP x) a_2 = true) /\
 x.l.length - a_2 < x.l.length - a else samP x = true) := by kernel_rfl
theorem p_samP (x : PP2) (h : x.l.length < 4611686018427387904 /\ x.m.length < 4611686018427387904) : V_samP x := by
 rw [vc_samP]; simp only [condP, eq_self, implies_true, and_self, true_and, and_true, true_implies, forall_const, decide_eq_true_eq, decide_eq_false_iff_not, Int.toNat_natCast, dSpan_eSpan, dInt_eInt, dMk_e, dNt_e, dPr_e, Nat.zero_add, Int.zero_sub, Nat.le_eq, Nat.succ_eq_add_one, Nat.add_one_le_iff, Bool.not_eq_true', Bool.not_eq_false', rng_length, dSpan_mk, rng_getD]
 refine ⟨λ hn => ?_, λ hn => ⟨⟨0, rfl, Nat.zero_le _, rfl⟩, ?_⟩⟩
 ·unfold samP
  have : (x.l.length == x.m.length) = false := by simp at hn ⊢; omega
  rw [this]; rfl
 ·have hl : (x.l.length == x.m.length) = true := by simp at hn ⊢; omega
  have hl2 : x.l.length = x.m.length := by simpa using hl
  rintro k ⟨hk, he⟩
  refine ⟨λ hlt => ⟨⟨⟨by omega, by omega⟩, by omega, by omega⟩, λ hc => ?_, λ hc => ⟨k + 1, by rw [w64 (by omega) (by omega)]; rfl, ⟨by omega, eqN_up he ?_⟩, by omega⟩⟩, λ hge => ?_⟩
  ·unfold samP
   rw [eqN_no (f := eqP x) (show k < x.l.length by omega) (by rw [Bool.and_true] at hc; exact hc), Bool.and_false]
  ·rw [Bool.and_true] at hc; exact hc
  ·obtain rfl : k = x.l.length := by omega
   unfold samP; rw [hl, he]; rfl
theorem ok_samP : SpecOk Try.prog n_sameP (C_samP.spec dPP2) := okC C_samP A_samP [] [] fn_sameP (λ _ => by kernel_rfl) (λ _ => gok_nil) (λ (x : PP2) h => p_samP x h) (λ _ => noI rfl rfl) _
def oneM (x : I2) : Cht := ⟨⟨10, 12⟩, 500, 10, 5, [⟨0, 20⟩, ⟨10, 50⟩, ⟨30, 30⟩], [⟨0, ⟨0, 0⟩, ⟨0, 2000⟩⟩, ⟨2, ⟨x.a, x.b⟩, ⟨0, 2000⟩⟩]⟩
def V_one (x : I2) : Prop := fnVC Try.prog (ann 21 []) F_One (bodyOf F_One) (xI2 x) (heapOf []) (.d (eCht (oneM x))) [] [] [3064, 3192]
theorem vc_one (x : I2) : (V_one x) = ((oneM x).p.lo = 10 /\ (oneM x).p.hi = 12 /\ (oneM x).base = 500 /\ (oneM x).scale = 10 /\ (oneM x).off = 5 /\ (oneM x).ms.length = 3 /\ 3 <= 3 /\ (∀ (j : Nat), j < (oneM x).ms.length -> ((gD
 (oneM x).ms j).pl = bif decide (0 + j = 0) then 0 else bif decide (0 + j - 1 = 0) then 10 else 30) /\ (gD (oneM x).ms j).ht = bif decide (0 + j = 0) then 20 else bif decide (0 + j - 1 = 0) then 50 else 30) /\ (oneM
 x).ns.length = 2 /\ 2 <= 2 /\ ∀ (j : Nat), j < (oneM x).ns.length -> ((gD (oneM x).ns j).mi = bif decide (0 + j = 0) then 0 else 2) /\ ((gD (oneM x).ns j).t.lo = bif decide (0 + j = 0) then 0 else x.a) /\ ((gD (oneM x).ns
 j).t.hi = bif decide (0 + j = 0) then 0 else x.b) /\ ((gD (oneM x).ns j).s.lo = bif decide (0 + j = 0) then 0 else 0) /\ (gD (oneM x).ns j).s.hi = bif decide (0 + j = 0) then 2000 else 2000) := by kernel_rfl
def s_one := pD dI2 λ x => .d (eCht (oneM x))
theorem ok_one : SpecOk Try.prog n_One s_one := pD_ok xI2 hI2 λ g _ => fnt (A := ann 21 []) (ren := []) (fz := [3064, 3192]) fn_One (by kernel_rfl) gok_nil (by
 show V_one g; rw [vc_one]; simp only [condP, eq_self, implies_true, and_self, true_and, and_true, true_implies, forall_const, decide_eq_true_eq, decide_eq_false_iff_not, Int.toNat_natCast, dSpan_eSpan, dInt_eInt, dMk_e, dNt_e, dPr_e, Nat.zero_add, Int.zero_sub, Nat.le_eq, Nat.succ_eq_add_one, Nat.add_one_le_iff, Bool.not_eq_true', Bool.not_eq_false', rng_length, dSpan_mk, rng_getD]
 refine ⟨rfl, rfl, rfl, rfl, rfl, rfl, by decide, λ j hj => ?_, rfl, by decide, λ j hj => ?_⟩
 ·have hj : j < 3 := hj
  rcases j with _ | _ | _ | j
  ·exact ⟨rfl, rfl⟩
  ·exact ⟨rfl, rfl⟩
  ·exact ⟨rfl, rfl⟩
  ·omega
 ·have hj : j < 2 := hj
  rcases j with _ | _ | j
  ·exact ⟨rfl, rfl, rfl, rfl, rfl⟩
  ·exact ⟨rfl, rfl, rfl, rfl, rfl⟩
  ·omega)
def A_awake : Ann := ann 249 [(n_One, s_one), (n_Stages, C_Stages.spec dC1), (n_Times, C_Times.spec dCZ), (n_sameS, C_samS.spec dSS2), (n_Stops, C_Stops.spec dC1), (n_Pairs, C_Pairs.spec dC1), (n_Proves, C_prov.spec dPrv), (n_sameP, C_samP.spec dPP2), (n_Stage, C_Stage.spec dCZI), (n_Peak, C_Peak.spec dCZ2), (n_First, C_First.spec dCZI)]
def V_awake : Prop := fnVC Try.prog A_awake F_awake (bodyOf F_awake) [] (heapOf []) (.bool true) [] [] []
abbrev z_awake_0 : Prop := Int.ofNat (10 : Nat) = Int.ofNat (10 : Nat)
abbrev z_awake_1 : Prop := Int.ofNat (12 : Nat) = Int.ofNat (12 : Nat)
abbrev z_awake_2 : Prop := Int.ofNat (500 : Nat) = Int.ofNat (500 : Nat)
abbrev z_awake_3 : Prop := Int.ofNat (5 : Nat) = Int.ofNat (5 : Nat)
abbrev z_awake_4 : Prop := (3 : Nat) = (3 : Nat)
abbrev z_awake_5 : Cht := oneM (I2.mk (310 : Int) (320 : Int))
abbrev z_awake_6 : List Mk := z_awake_5.ms
abbrev z_awake_7 (i : Nat) : Mk := gD z_awake_6 i
abbrev z_awake_8 : List Mk := rng z_awake_6.length λ (i : Nat) => z_awake_7 i
abbrev z_awake_9 (i : Nat) : Mk := gD z_awake_8 i
abbrev z_awake_10 : Prop := ∀ (i : Nat), i < (3 : Nat) -> (z_awake_9 i).pl = (z_awake_7 i).pl /\ (z_awake_9 i).ht = (z_awake_7 i).ht
abbrev z_awake_11 : Prop := (2 : Nat) = (2 : Nat)
abbrev z_awake_12 : List Nt := z_awake_5.ns
abbrev z_awake_13 (i : Nat) : Nt := gD z_awake_12 i
abbrev z_awake_14 : List Nt := rng z_awake_12.length λ (i : Nat) => z_awake_13 i
abbrev z_awake_15 (i : Nat) : Nt := gD z_awake_14 i
abbrev z_awake_16 (i : Nat) : Span := (z_awake_15 i).t
abbrev z_awake_17 (i : Nat) : Span := (z_awake_13 i).t
abbrev z_awake_18 (i : Nat) : Span := (z_awake_15 i).s
abbrev z_awake_19 (i : Nat) : Span := (z_awake_13 i).s
abbrev z_awake_20 : Prop := ∀ (i : Nat), i < (2 : Nat) -> (z_awake_15 i).mi = (z_awake_13 i).mi /\ (z_awake_16 i).lo = (z_awake_17 i).lo /\ (z_awake_16 i).hi = (z_awake_17 i).hi /\ (z_awake_18 i).lo = (z_awake_19 i).lo /\
 (z_awake_18 i).hi = (z_awake_19 i).hi
abbrev z_awake_21 : Prop := (3 : Nat) < (4611686018427387904 : Nat)
abbrev z_awake_22 : Prop := (2 : Nat) < (4611686018427387904 : Nat)
abbrev z_awake_23 : Prop := z_awake_21 /\ z_awake_22
abbrev z_awake_24 : Prop := (0 : Nat) = (0 : Nat)
abbrev z_awake_25 : Prop := z_awake_21 /\ z_awake_22 /\ (0 : Nat) < (4611686018427387904 : Nat)
abbrev z_awake_26 : Prop := z_awake_24 /\ z_awake_24 /\ z_awake_25
abbrev z_awake_27 : Cht := oneM (I2.mk (300 : Int) (300 : Int))
abbrev z_awake_28 : List Mk := z_awake_27.ms
abbrev z_awake_29 (i : Nat) : Mk := gD z_awake_28 i
abbrev z_awake_30 (i : Nat) : Mk := gD (rng z_awake_28.length λ (i : Nat) => z_awake_29 i) i
abbrev z_awake_31 : List Nt := z_awake_27.ns
abbrev z_awake_32 (i : Nat) : Nt := gD z_awake_31 i
abbrev z_awake_33 (i : Nat) : Nt := gD (rng z_awake_31.length λ (i : Nat) => z_awake_32 i) i
abbrev z_awake_34 (i : Nat) : Span := (z_awake_33 i).t
abbrev z_awake_35 (i : Nat) : Span := (z_awake_32 i).t
abbrev z_awake_36 (i : Nat) : Span := (z_awake_33 i).s
abbrev z_awake_37 (i : Nat) : Span := (z_awake_32 i).s
abbrev z_awake_38 : Cht := Cht.mk z_awake_5.p z_awake_5.base z_awake_5.scale z_awake_5.off z_awake_8 z_awake_14
abbrev z_awake_39 : List Span := (stagesV z_awake_38).fst
abbrev z_awake_40 (i : Nat) : Span := gD z_awake_39 i
abbrev z_awake_41 (i : Nat) : Span := gD (rng z_awake_39.length λ (i : Nat) => z_awake_40 i) i
abbrev z_awake_42 (i : Nat) : Bool := decide (i = (0 : Nat))
abbrev z_awake_43 (i : Nat) : Bool := decide (i - (1 : Nat) = (0 : Nat))
abbrev z_awake_44 (i : Nat) : Int := bif z_awake_42 i then (695 : Int) else bif z_awake_43 i then (995 : Int) else (795 : Int)
abbrev z_awake_45 (i : Nat) : Int := bif z_awake_42 i then (705 : Int) else bif z_awake_43 i then (1005 : Int) else (805 : Int)
abbrev z_awake_46 (i : Nat) : Span := gD (rng (3 : Nat) λ (i : Nat) => Span.mk (z_awake_44 i) (z_awake_45 i)) i
abbrev z_awake_47 : Prop := z_awake_21 /\ z_awake_21
abbrev z_awake_48 : List Span := (timR (CZ.mk z_awake_38 (rng (0 : Nat) λ (i : Nat) => default))).fst
abbrev z_awake_49 (i : Nat) : Span := gD z_awake_48 i
abbrev z_awake_50 (i : Nat) : Span := gD (rng z_awake_48.length λ (i : Nat) => z_awake_49 i) i
abbrev z_awake_51 (i : Nat) : Int := bif z_awake_42 i then (0 : Int) else bif z_awake_43 i then (100 : Int) else (310 : Int)
abbrev z_awake_52 (i : Nat) : Int := bif z_awake_42 i then (0 : Int) else bif z_awake_43 i then (120 : Int) else (320 : Int)
abbrev z_awake_53 (i : Nat) : Span := gD (rng (3 : Nat) λ (i : Nat) => Span.mk (z_awake_51 i) (z_awake_52 i)) i
abbrev z_awake_54 : Prop := true = true -> (0 : Int) <= (1 : Int) /\ (1 : Int) < (↑(3 : Nat) : Int)
abbrev z_awake_55 : Cht := oneM (I2.mk (400 : Int) (410 : Int))
abbrev z_awake_56 : List Mk := z_awake_55.ms
abbrev z_awake_57 (i : Nat) : Mk := gD z_awake_56 i
abbrev z_awake_58 : List Mk := rng z_awake_56.length λ (i : Nat) => z_awake_57 i
abbrev z_awake_59 (i : Nat) : Mk := gD z_awake_58 i
abbrev z_awake_60 : Prop := ∀ (i : Nat), i < (3 : Nat) -> (z_awake_59 i).pl = (z_awake_57 i).pl /\ (z_awake_59 i).ht = (z_awake_57 i).ht
abbrev z_awake_61 : List Nt := z_awake_55.ns
abbrev z_awake_62 (i : Nat) : Nt := gD z_awake_61 i
abbrev z_awake_63 : List Nt := rng z_awake_61.length λ (i : Nat) => z_awake_62 i
abbrev z_awake_64 (i : Nat) : Nt := gD z_awake_63 i
abbrev z_awake_65 (i : Nat) : Span := (z_awake_64 i).t
abbrev z_awake_66 (i : Nat) : Span := (z_awake_62 i).t
abbrev z_awake_67 (i : Nat) : Span := (z_awake_64 i).s
abbrev z_awake_68 (i : Nat) : Span := (z_awake_62 i).s
abbrev z_awake_69 : Prop := ∀ (i : Nat), i < (2 : Nat) -> (z_awake_64 i).mi = (z_awake_62 i).mi /\ (z_awake_65 i).lo = (z_awake_66 i).lo /\ (z_awake_65 i).hi = (z_awake_66 i).hi /\ (z_awake_67 i).lo = (z_awake_68 i).lo /\
 (z_awake_67 i).hi = (z_awake_68 i).hi
abbrev z_awake_70 : Prop := Int.ofNat (0 : Nat) = Int.ofNat (0 : Nat)
abbrev z_awake_71 : Prop := z_awake_0 /\ z_awake_1 /\ z_awake_2 /\ z_awake_0 /\ z_awake_3 /\ z_awake_4 /\ z_awake_60 /\ z_awake_11 /\ z_awake_69 /\ z_awake_23 /\ (z_awake_70 -> (2 : Nat) <= (12 : Nat))
abbrev z_awake_72 : Prop := (1 : Nat) = (1 : Nat)
abbrev z_awake_73 : Prop := (1 : Nat) <= (1 : Nat)
abbrev z_awake_74 (j : Nat) : Pr := gD (rng (1 : Nat) λ (i : Nat) => dPr (getEs [Sym.elemOf [ofV (Value.int IntKind.i64 (0 : Int)), ofV (Value.int IntKind.i64 (1 : Int))]] i)) j
abbrev z_awake_75 : Prop := ∀ (j : Nat), j < (1 : Nat) -> (z_awake_74 j).a = (0 : Int) /\ (z_awake_74 j).b = (1 : Int)
abbrev z_awake_76 : Prop := (1 : Nat) < (4611686018427387904 : Nat)
abbrev z_awake_77 : Prop := z_awake_21 /\ z_awake_22 /\ z_awake_76
abbrev z_awake_78 : List Pr := (fewV (Cht.mk z_awake_55.p z_awake_55.base z_awake_55.scale z_awake_55.off z_awake_58 z_awake_63)).r
abbrev z_awake_79 (i : Nat) : Pr := gD z_awake_78 i
abbrev z_awake_80 (i : Nat) : Pr := gD (rng z_awake_78.length λ (i : Nat) => z_awake_79 i) i
theorem vc_awake : (V_awake) = ((z_awake_0 /\ z_awake_1 /\ z_awake_2 /\ z_awake_0 /\ z_awake_3 /\ z_awake_4 /\ z_awake_10 /\ z_awake_11 /\ z_awake_20 /\ z_awake_23) /\ (z_awake_0 /\ z_awake_1 /\ z_awake_2 /\ z_awake_0 /\ z_awake_3 /\
 z_awake_4 /\ z_awake_10 /\ z_awake_11 /\ z_awake_20 /\ z_awake_26) /\ (z_awake_0 /\ z_awake_1 /\ z_awake_2 /\ z_awake_0 /\ z_awake_3 /\ z_awake_4 /\ (∀ (i : Nat), i < (3 : Nat) -> (z_awake_30 i).pl = (z_awake_29 i).pl /\ (z_awake_30
 i).ht = (z_awake_29 i).ht) /\ z_awake_11 /\ (∀ (i : Nat), i < (2 : Nat) -> (z_awake_33 i).mi = (z_awake_32 i).mi /\ (z_awake_34 i).lo = (z_awake_35 i).lo /\ (z_awake_34 i).hi = (z_awake_35 i).hi /\ (z_awake_36 i).lo =
 (z_awake_37 i).lo /\ (z_awake_36 i).hi = (z_awake_37 i).hi) /\ z_awake_26) /\ ((true = true -> z_awake_4 /\ (∀ (i : Nat), i < (3 : Nat) -> (z_awake_41 i).lo = (z_awake_40 i).lo /\ (z_awake_41 i).hi = (z_awake_40 i).hi) /\
 z_awake_4 /\ (∀ (i : Nat), i < (3 : Nat) -> (z_awake_46 i).lo = z_awake_44 i /\ (z_awake_46 i).hi = z_awake_45 i) /\ z_awake_47) /\ (true = true -> z_awake_4 /\ (∀ (i : Nat), i < (3 : Nat) -> (z_awake_50 i).lo = (z_awake_49
 i).lo /\ (z_awake_50 i).hi = (z_awake_49 i).hi) /\ z_awake_4 /\ (∀ (i : Nat), i < (3 : Nat) -> (z_awake_53 i).lo = z_awake_51 i /\ (z_awake_53 i).hi = z_awake_52 i) /\ z_awake_47) /\ z_awake_54) /\ z_awake_71 /\ z_awake_71 /\
 (z_awake_0 /\ z_awake_1 /\ z_awake_2 /\ z_awake_0 /\ z_awake_3 /\ z_awake_4 /\ z_awake_60 /\ z_awake_11 /\ z_awake_69 /\ Int.ofNat (1 : Nat) = Int.ofNat (1 : Nat) /\ z_awake_72 /\ z_awake_73 /\ z_awake_75 /\ z_awake_77) /\ (z_awake_0
 /\ z_awake_1 /\ z_awake_2 /\ z_awake_0 /\ z_awake_3 /\ z_awake_4 /\ z_awake_60 /\ z_awake_11 /\ z_awake_69 /\ z_awake_72 /\ z_awake_73 /\ (∀ (j : Nat), j < (1 : Nat) -> gD (rng (1 : Nat) λ (i : Nat) => (0 : Int)) j = (0 : Int)) /\
 z_awake_77) /\ (z_awake_0 /\ z_awake_1 /\ z_awake_2 /\ z_awake_0 /\ z_awake_3 /\ z_awake_4 /\ z_awake_60 /\ z_awake_11 /\ z_awake_69 /\ z_awake_72 /\ z_awake_73 /\ (∀ (j : Nat), j < (1 : Nat) -> gD (rng (1 : Nat) λ (i : Nat) => (1
 : Int)) j = (1 : Int)) /\ z_awake_77) /\ ((true = true -> z_awake_72 /\ (∀ (i : Nat), i < (1 : Nat) -> (z_awake_80 i).a = (z_awake_79 i).a /\ (z_awake_80 i).b = (z_awake_79 i).b) /\ z_awake_72 /\ z_awake_75 /\ z_awake_76 /\
 z_awake_76) /\ z_awake_54 /\ z_awake_54) /\ (z_awake_0 /\ z_awake_1 /\ z_awake_2 /\ z_awake_0 /\ z_awake_3 /\ z_awake_4 /\ z_awake_10 /\ z_awake_11 /\ z_awake_20 /\ z_awake_24 /\ z_awake_24 /\ Int.ofNat (50 : Nat) = Int.ofNat (50 :
 Nat) /\ z_awake_25) /\ (z_awake_0 /\ z_awake_1 /\ z_awake_2 /\ z_awake_0 /\ z_awake_3 /\ z_awake_4 /\ z_awake_10 /\ z_awake_11 /\ z_awake_20 /\ z_awake_24 /\ z_awake_24 /\ Int.ofNat (320 : Nat) = Int.ofNat (320 : Nat) /\ z_awake_25) /\
 (z_awake_0 /\ z_awake_1 /\ z_awake_2 /\ z_awake_0 /\ z_awake_3 /\ z_awake_4 /\ z_awake_10 /\ z_awake_11 /\ z_awake_20 /\ z_awake_24 /\ z_awake_24 /\ Int.ofNat (321 : Nat) = Int.ofNat (321 : Nat) /\ z_awake_25) /\ (z_awake_0 /\
 z_awake_1 /\ z_awake_2 /\ z_awake_0 /\ z_awake_3 /\ z_awake_4 /\ z_awake_10 /\ z_awake_11 /\ z_awake_20 /\ z_awake_24 /\ z_awake_24 /\ z_awake_70 /\ Int.ofNat (110 : Nat) = Int.ofNat (110 : Nat) /\ z_awake_25) /\ (z_awake_0 /\
 z_awake_1 /\ z_awake_2 /\ z_awake_0 /\ z_awake_3 /\ z_awake_4 /\ z_awake_10 /\ z_awake_11 /\ z_awake_20 /\ z_awake_24 /\ z_awake_24 /\ Int.ofNat (1000 : Nat) = Int.ofNat (1000 : Nat) /\ z_awake_25) /\ (z_awake_0 /\ z_awake_1 /\
 z_awake_2 /\ z_awake_0 /\ z_awake_3 /\ z_awake_4 /\ z_awake_10 /\ z_awake_11 /\ z_awake_20 /\ z_awake_24 /\ z_awake_24 /\ Int.ofNat (995 : Nat) = Int.ofNat (995 : Nat) /\ z_awake_25) /\ true = true) := by kernel_rfl
def f_awake : List AVal -> Option (AVal × List Prop)
 | [] => some (.bool true, [])
 | _ => none
def s_awake : Sym.Spec := pureSpec f_awake
theorem p_awake : V_awake := by
 rw [vc_awake]; delta z_awake_0 z_awake_1 z_awake_2 z_awake_3 z_awake_4 z_awake_5 z_awake_6 z_awake_7 z_awake_8 z_awake_9 z_awake_10 z_awake_11 z_awake_12 z_awake_13 z_awake_14 z_awake_15 z_awake_16 z_awake_17 z_awake_18 z_awake_19 z_awake_20 z_awake_21 z_awake_22 z_awake_23 z_awake_24 z_awake_25 z_awake_26 z_awake_27 z_awake_28 z_awake_29 z_awake_30 z_awake_31 z_awake_32 z_awake_33 z_awake_34 z_awake_35 z_awake_36 z_awake_37 z_awake_38 z_awake_39 z_awake_40 z_awake_41 z_awake_42 z_awake_43 z_awake_44 z_awake_45 z_awake_46 z_awake_47 z_awake_48 z_awake_49 z_awake_50 z_awake_51 z_awake_52 z_awake_53 z_awake_54 z_awake_55 z_awake_56 z_awake_57 z_awake_58 z_awake_59 z_awake_60 z_awake_61 z_awake_62 z_awake_63 z_awake_64 z_awake_65 z_awake_66 z_awake_67 z_awake_68 z_awake_69 z_awake_70 z_awake_71 z_awake_72 z_awake_73 z_awake_74 z_awake_75 z_awake_76 z_awake_77 z_awake_78 z_awake_79 z_awake_80; simp only [condP, eq_self, implies_true, and_self, true_and, and_true, true_implies, forall_const, decide_eq_true_eq, decide_eq_false_iff_not, Int.toNat_natCast, dSpan_eSpan, dInt_eInt, dMk_e, dNt_e, dPr_e, Nat.zero_add, Int.zero_sub, Nat.le_eq, Nat.succ_eq_add_one, Nat.add_one_le_iff, Bool.not_eq_true', Bool.not_eq_false', rng_length, dSpan_mk, rng_getD]
 decide +kernel
theorem ok_awake : SpecOk Try.prog n_awake s_awake := pureSpec_ok λ xs v p h _ => by
 unfold f_awake at h; split at h
 ·cases h; exact fnt (A := A_awake) (ren := []) (fz := []) fn_awake (by kernel_rfl) (gok_cons ok_one (gok_cons okStages (gok_cons ok_Times (gok_cons ok_samS (gok_cons ok_Stops (gok_cons ok_Pairs (gok_cons ok_prov (gok_cons ok_samP (gok_cons ok_Stage (gok_cons ok_Peak (gok_cons ok_First gok_nil))))))))))) p_awake
 ·cases h
end Go.Bal
