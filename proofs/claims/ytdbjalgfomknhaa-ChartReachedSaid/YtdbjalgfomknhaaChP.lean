/- Package chart: Same, One. -/
import Derived.Test.YtdbjalgfomknhaaChL
set_option linter.unusedVariables false
set_option linter.unusedSimpArgs false
namespace Go.Bal
open Go Go.Sym Go.Proofs
structure SS2 where
 l : List Span
 m : List Span
def dSS2 : List AVal -> Heap -> Option (SS2 × List (Nat × Nat) × List Nat)
 | [x, y], H => match Db x H, Db y H with
  | some (l, f), some (m, e) => some (⟨l, m⟩, [], f ++ e)
  | _, _ => none
 | _, _ => none
def eqN (f : Nat -> Bool) : Nat -> Bool
 | 0 => true
 | k + 1 => eqN f k && f k
def eqS (x : SS2) (i : Nat) : Bool := (gD x.l i).lo == (gD x.m i).lo && (gD x.l i).hi == (gD x.m i).hi
def samS (x : SS2) : Bool := x.l.length == x.m.length && eqN (eqS x) x.l.length
def C_samS : Ctr := { α := SS2, xs := λ x => [.d (AT x.l), .d (AT x.m)], val := λ x => .bool (samS x), keep := λ _ => [], pre := λ x => [x.l.length < 4611686018427387904 /\ x.m.length < 4611686018427387904] }
def sa4 (x : SS2) : Shape := { α := Nat, dflt := 0, T := λ k => ⟨[(0, .d (AT x.l)), (1, .d (AT x.m)), (5, .int k)], []⟩, inv := λ k => k <= x.l.length /\ eqN (eqS x) k = true, meas := λ k => x.l.length - k }
def DBX (x : SS2) : Ann := { ann 26 [] with loops := λ id => if id = 4 then some [sa4 x] else none }
def DDU (x : SS2) : Prop := BA Try.prog (DBX x) COQ (AL COQ) (C_samS.xs x) (AG []) (C_samS.val x) [] [] []
theorem DKT (x : SS2) : (DDU x) = (bif (↑x.l.length : Int) != (↑x.m.length : Int) then samS x = false else (∃ (a : Nat), (x.l.length = x.l.length /\ (∀ (i : Nat), i < x.l.length -> (gD x.l i).lo = (gD x.l i).lo /\
 (gD x.l i).hi = (gD x.l i).hi) /\ x.m.length = x.m.length /\ (∀ (i : Nat), i < x.m.length -> (gD x.m i).lo = (gD x.m i).lo /\ (gD x.m i).hi = (gD x.m i).hi) /\ (↑a : Int) = 0) /\ a <= x.l.length /\ eqN (eqS x) a = true) /\ ∀ (a :
 Nat), a <= x.l.length /\ eqN (eqS x) a = true -> bif decide ((↑a : Int) < (↑x.l.length : Int)) then ((0 <= (↑a : Int) /\ (↑a : Int) < (↑x.l.length : Int)) /\ 0 <= (↑a : Int) /\ (↑a : Int) < (↑x.m.length : Int)) /\ bif !((gD x.l
 a).lo == (gD x.m a).lo && ((gD x.l a).hi == (gD x.m a).hi && true)) then samS x = false else ∃ (a_2 : Nat), (x.l.length = x.l.length /\ (∀ (i : Nat), i < x.l.length -> (gD x.l i).lo = (gD x.l i).lo /\ (gD x.l i).hi = (gD
 x.l i).hi) /\ x.m.length = x.m.length /\ (∀ (i : Nat), i < x.m.length -> (gD x.m i).lo = (gD x.m i).lo /\ (gD x.m i).hi = (gD x.m i).hi) /\ (↑a_2 : Int) = IntKind.i64.wrap ((↑a : Int) + 1)) /\ (a_2 <= x.l.length /\ eqN (eqS x)
 a_2 = true) /\ x.l.length - a_2 < x.l.length - a else samS x = true) := by kernel_rfl
theorem CTA {f : Nat -> Bool} : ∀ {n k : Nat}, k < n -> f k = false -> eqN f n = false
 | 0, k, h, _ => absurd h (Nat.not_lt_zero _)
 | n + 1, k, h, hg => by
  show (eqN f n && f n) = false
  by_cases e : k = n
  ·subst e; rw [hg, Bool.and_false]
  ·rw [CTA (show k < n by omega) hg]; rfl
theorem DDI {f : Nat -> Bool} {k : Nat} (h : eqN f k = true) (h2 : f k = true) : eqN f (k + 1) = true := by
 show (eqN f k && f k) = true
 rw [h, h2]; rfl
theorem DRP (x : SS2) (h : x.l.length < 4611686018427387904 /\ x.m.length < 4611686018427387904) : DDU x := by
 rw [DKT]; simp only [AU, eq_self, implies_true, and_self, true_and, and_true, true_implies, forall_const, decide_eq_true_eq, decide_eq_false_iff_not, Int.toNat_natCast, dSpan_eSpan, dInt_eInt, AY, AW, AX, Nat.zero_add, Int.zero_sub, Nat.le_eq, Nat.succ_eq_add_one, Nat.add_one_le_iff, Bool.not_eq_true', Bool.not_eq_false', rng_length, AK, AJ]
 refine ⟨λ hn => ?_, λ hn => ⟨⟨0, rfl, Nat.zero_le _, rfl⟩, ?_⟩⟩
 ·unfold samS
  have : (x.l.length == x.m.length) = false := by simp at hn ⊢; omega
  rw [this]; rfl
 ·have hl : (x.l.length == x.m.length) = true := by simp at hn ⊢; omega
  have hl2 : x.l.length = x.m.length := by simpa using hl
  rintro k ⟨hk, he⟩
  refine ⟨λ hlt => ⟨⟨⟨by omega, by omega⟩, by omega, by omega⟩, λ hc => ?_, λ hc => ⟨k + 1, by rw [EN (by omega) (by omega)]; rfl, ⟨by omega, DDI he ?_⟩, by omega⟩⟩, λ hge => ?_⟩
  ·unfold samS
   rw [CTA (f := eqS x) (show k < x.l.length by omega) (by rw [Bool.and_true] at hc; exact hc), Bool.and_false]
  ·rw [Bool.and_true] at hc; exact hc
  ·obtain rfl : k = x.l.length := by omega
   unfold samS; rw [hl, he]; rfl
theorem DKZ : AN Try.prog CON (C_samS.spec dSS2) := MB C_samS DBX [] [] DFB (λ _ => by kernel_rfl) (λ _ => AI) (λ (x : SS2) h => DRP x h) (λ _ => OS rfl rfl) _
structure PP2 where
 l : List Pr
 m : List Pr
def dPP2 : List AVal -> Heap -> Option (PP2 × List (Nat × Nat) × List Nat)
 | [x, y], H => match dPrs x H, dPrs y H with
  | some (l, f), some (m, e) => some (⟨l, m⟩, [], f ++ e)
  | _, _ => none
 | _, _ => none
def eqP (x : PP2) (i : Nat) : Bool := (gD x.l i).a == (gD x.m i).a && (gD x.l i).b == (gD x.m i).b
def samP (x : PP2) : Bool := x.l.length == x.m.length && eqN (eqP x) x.l.length
def C_samP : Ctr := { α := PP2, xs := λ x => [.d (Ij x.l), .d (Ij x.m)], val := λ x => .bool (samP x), keep := λ _ => [], pre := λ x => [x.l.length < 4611686018427387904 /\ x.m.length < 4611686018427387904] }
def sq4 (x : PP2) : Shape := { α := Nat, dflt := 0, T := λ k => ⟨[(0, .d (Ij x.l)), (1, .d (Ij x.m)), (5, .int k)], []⟩, inv := λ k => k <= x.l.length /\ eqN (eqP x) k = true, meas := λ k => x.l.length - k }
def DDG (x : PP2) : Ann := { ann 26 [] with loops := λ id => if id = 4 then some [sq4 x] else none }
def DFT (x : PP2) : Prop := BA Try.prog (DDG x) CIN (AL CIN) (C_samP.xs x) (AG []) (C_samP.val x) [] [] []
theorem DKX (x : PP2) : (DFT x) = (bif (↑x.l.length : Int) != (↑x.m.length : Int) then samP x = false else (∃ (a : Nat), (x.l.length = x.l.length /\ (∀ (i : Nat), i < x.l.length -> (gD x.l i).a = (gD x.l i).a /\ (gD
 x.l i).b = (gD x.l i).b) /\ x.m.length = x.m.length /\ (∀ (i : Nat), i < x.m.length -> (gD x.m i).a = (gD x.m i).a /\ (gD x.m i).b = (gD x.m i).b) /\ (↑a : Int) = 0) /\ a <= x.l.length /\ eqN (eqP x) a = true) /\ ∀ (a : Nat), a <=
 x.l.length /\ eqN (eqP x) a = true -> bif decide ((↑a : Int) < (↑x.l.length : Int)) then ((0 <= (↑a : Int) /\ (↑a : Int) < (↑x.l.length : Int)) /\ 0 <= (↑a : Int) /\ (↑a : Int) < (↑x.m.length : Int)) /\ bif !((gD x.l a).a == (gD
 x.m a).a && ((gD x.l a).b == (gD x.m a).b && true)) then samP x = false else ∃ (a_2 : Nat), (x.l.length = x.l.length /\ (∀ (i : Nat), i < x.l.length -> (gD x.l i).a = (gD x.l i).a /\ (gD x.l i).b = (gD x.l i).b) /\
 x.m.length = x.m.length /\ (∀ (i : Nat), i < x.m.length -> (gD x.m i).a = (gD x.m i).a /\ (gD x.m i).b = (gD x.m i).b) /\ (↑a_2 : Int) = IntKind.i64.wrap ((↑a : Int) + 1)) /\ (a_2 <= x.l.length /\ eqN (eqP x) a_2 = true) /\
 x.l.length - a_2 < x.l.length - a else samP x = true) := by kernel_rfl
theorem DQG (x : PP2) (h : x.l.length < 4611686018427387904 /\ x.m.length < 4611686018427387904) : DFT x := by
 rw [DKX]; simp only [AU, eq_self, implies_true, and_self, true_and, and_true, true_implies, forall_const, decide_eq_true_eq, decide_eq_false_iff_not, Int.toNat_natCast, dSpan_eSpan, dInt_eInt, AY, AW, AX, Nat.zero_add, Int.zero_sub, Nat.le_eq, Nat.succ_eq_add_one, Nat.add_one_le_iff, Bool.not_eq_true', Bool.not_eq_false', rng_length, AK, AJ]
 refine ⟨λ hn => ?_, λ hn => ⟨⟨0, rfl, Nat.zero_le _, rfl⟩, ?_⟩⟩
 ·unfold samP
  have : (x.l.length == x.m.length) = false := by simp at hn ⊢; omega
  rw [this]; rfl
 ·have hl : (x.l.length == x.m.length) = true := by simp at hn ⊢; omega
  have hl2 : x.l.length = x.m.length := by simpa using hl
  rintro k ⟨hk, he⟩
  refine ⟨λ hlt => ⟨⟨⟨by omega, by omega⟩, by omega, by omega⟩, λ hc => ?_, λ hc => ⟨k + 1, by rw [EN (by omega) (by omega)]; rfl, ⟨by omega, DDI he ?_⟩, by omega⟩⟩, λ hge => ?_⟩
  ·unfold samP
   rw [CTA (f := eqP x) (show k < x.l.length by omega) (by rw [Bool.and_true] at hc; exact hc), Bool.and_false]
  ·rw [Bool.and_true] at hc; exact hc
  ·obtain rfl : k = x.l.length := by omega
   unfold samP; rw [hl, he]; rfl
theorem DJP : AN Try.prog CLJ (C_samP.spec dPP2) := MB C_samP DDG [] [] DFJ (λ _ => by kernel_rfl) (λ _ => AI) (λ (x : PP2) h => DQG x h) (λ _ => OS rfl rfl) _
def Dc (x : I2) : Cht := ⟨⟨10, 12⟩, 500, 10, 5, [⟨0, 20⟩, ⟨10, 50⟩, ⟨30, 30⟩], [⟨0, ⟨0, 0⟩, ⟨0, 2000⟩⟩, ⟨2, ⟨x.a, x.b⟩, ⟨0, 2000⟩⟩]⟩
def DOH (x : I2) : Prop := BA Try.prog (ann 21 []) DHA (AL DHA) (xI2 x) (AG []) (.d (XK (Dc x))) [] [] [3064, 3192]
theorem DRH (x : I2) : (DOH x) = ((Dc x).p.lo = 10 /\ (Dc x).p.hi = 12 /\ (Dc x).base = 500 /\ (Dc x).scale = 10 /\ (Dc x).off = 5 /\ (Dc x).ms.length = 3 /\ 3 <= 3 /\ (∀ (j : Nat), j < (Dc x).ms.length -> ((gD
 (Dc x).ms j).pl = bif decide (0 + j = 0) then 0 else bif decide (0 + j - 1 = 0) then 10 else 30) /\ (gD (Dc x).ms j).ht = bif decide (0 + j = 0) then 20 else bif decide (0 + j - 1 = 0) then 50 else 30) /\ (Dc
 x).ns.length = 2 /\ 2 <= 2 /\ ∀ (j : Nat), j < (Dc x).ns.length -> ((gD (Dc x).ns j).mi = bif decide (0 + j = 0) then 0 else 2) /\ ((gD (Dc x).ns j).t.lo = bif decide (0 + j = 0) then 0 else x.a) /\ ((gD (Dc x).ns
 j).t.hi = bif decide (0 + j = 0) then 0 else x.b) /\ ((gD (Dc x).ns j).s.lo = bif decide (0 + j = 0) then 0 else 0) /\ (gD (Dc x).ns j).s.hi = bif decide (0 + j = 0) then 2000 else 2000) := by kernel_rfl
def DNK := pD dI2 λ x => .d (XK (Dc x))
theorem DQV : AN Try.prog DEA DNK := XL xI2 hI2 λ g _ => PJ (A := ann 21 []) (ren := []) (fz := [3064, 3192]) DQW (by kernel_rfl) AI (by
 show DOH g; rw [DRH]; simp only [AU, eq_self, implies_true, and_self, true_and, and_true, true_implies, forall_const, decide_eq_true_eq, decide_eq_false_iff_not, Int.toNat_natCast, dSpan_eSpan, dInt_eInt, AY, AW, AX, Nat.zero_add, Int.zero_sub, Nat.le_eq, Nat.succ_eq_add_one, Nat.add_one_le_iff, Bool.not_eq_true', Bool.not_eq_false', rng_length, AK, AJ]
 refine ⟨rfl, rfl, rfl, rfl, rfl, rfl, by decide, λ j hj => ?_, rfl, by decide, λ j hj => ?_⟩
 ·have hj : j < 3 := hj
  rcases j with _ | _ | _ | j
  ·exact ⟨rfl, rfl⟩
  ·exact ⟨rfl, rfl⟩
  ·exact ⟨rfl, rfl⟩
  ·omega
 ·have hj : j < 2 := hj
  rcases j with _ | _ | j
  ·exact ⟨rfl, rfl, rfl, rfl, rfl⟩
  ·exact ⟨rfl, rfl, rfl, rfl, rfl⟩
  ·omega)
def CWX : Ann := ann 249 [(DEA, DNK), (AGL, C_Stages.spec dC1), (BKT, C_Times.spec dCZ), (CON, C_samS.spec dSS2), (CJU, C_Stops.spec dC1), (CNC, C_Pairs.spec dC1), (BYE, C_prov.spec dPrv), (CLJ, C_samP.spec dPP2), (CKW, C_Stage.spec dCZI), (CUA, C_Peak.spec dCZ2), (CPF, C_First.spec dCZI)]
def CYE : Prop := BA Try.prog CWX CGZ (AL CGZ) [] (AG []) (.bool true) [] [] []
abbrev BF : Prop := Int.ofNat (10 : Nat) = Int.ofNat (10 : Nat)
abbrev ED : Prop := Int.ofNat (12 : Nat) = Int.ofNat (12 : Nat)
abbrev EE : Prop := Int.ofNat (500 : Nat) = Int.ofNat (500 : Nat)
abbrev EA : Prop := Int.ofNat (5 : Nat) = Int.ofNat (5 : Nat)
abbrev CI : Prop := (3 : Nat) = (3 : Nat)
abbrev z_awake_5 : Cht := Dc (I2.mk (310 : Int) (320 : Int))
abbrev z_awake_6 : List Mk := z_awake_5.ms
abbrev nS (i : Nat) : Mk := gD z_awake_6 i
abbrev BGR : List Mk := AF z_awake_6.length λ (i : Nat) => nS i
abbrev ARG (i : Nat) : Mk := gD BGR i
abbrev HI : Prop := ∀ (i : Nat), i < (3 : Nat) -> (ARG i).pl = (nS i).pl /\ (ARG i).ht = (nS i).ht
abbrev CV : Prop := (2 : Nat) = (2 : Nat)
abbrev z_awake_12 : List Nt := z_awake_5.ns
abbrev VS (i : Nat) : Nt := gD z_awake_12 i
abbrev xR : List Nt := AF z_awake_12.length λ (i : Nat) => VS i
abbrev Lf (i : Nat) : Nt := gD xR i
abbrev tR (i : Nat) : Span := (Lf i).t
abbrev yS (i : Nat) : Span := (VS i).t
abbrev B7 (i : Nat) : Span := (Lf i).s
abbrev uX (i : Nat) : Span := (VS i).s
abbrev HO : Prop := ∀ (i : Nat), i < (2 : Nat) -> (Lf i).mi = (VS i).mi /\ (tR i).lo = (yS i).lo /\ (tR i).hi = (yS i).hi /\ (B7 i).lo = (uX i).lo /\
 (B7 i).hi = (uX i).hi
abbrev PI : Prop := (3 : Nat) < (4611686018427387904 : Nat)
abbrev Mf : Prop := (2 : Nat) < (4611686018427387904 : Nat)
abbrev wS : Prop := PI /\ Mf
abbrev CL : Prop := (0 : Nat) = (0 : Nat)
abbrev JC : Prop := PI /\ Mf /\ (0 : Nat) < (4611686018427387904 : Nat)
abbrev yZ : Prop := CL /\ CL /\ JC
abbrev z_awake_27 : Cht := Dc (I2.mk (300 : Int) (300 : Int))
abbrev z_awake_28 : List Mk := z_awake_27.ms
abbrev Mi (i : Nat) : Mk := gD z_awake_28 i
abbrev vU (i : Nat) : Mk := gD (AF z_awake_28.length λ (i : Nat) => Mi i) i
abbrev z_awake_31 : List Nt := z_awake_27.ns
abbrev WD (i : Nat) : Nt := gD z_awake_31 i
abbrev Nj (i : Nat) : Nt := gD (AF z_awake_31.length λ (i : Nat) => WD i) i
abbrev D0 (i : Nat) : Span := (Nj i).t
abbrev X7 (i : Nat) : Span := (WD i).t
abbrev uP (i : Nat) : Span := (Nj i).s
abbrev D8 (i : Nat) : Span := (WD i).s
abbrev zA : Cht := Cht.mk z_awake_5.p z_awake_5.base z_awake_5.scale z_awake_5.off BGR xR
abbrev z_awake_39 : List Span := (JR zA).fst
abbrev Pk (i : Nat) : Span := gD z_awake_39 i
abbrev yE (i : Nat) : Span := gD (AF z_awake_39.length λ (i : Nat) => Pk i) i
abbrev VQ (i : Nat) : Bool := decide (i = (0 : Nat))
abbrev VU (i : Nat) : Bool := decide (i - (1 : Nat) = (0 : Nat))
abbrev wQ (i : Nat) : Int := bif VQ i then (695 : Int) else bif VU i then (995 : Int) else (795 : Int)
abbrev X5 (i : Nat) : Int := bif VQ i then (705 : Int) else bif VU i then (1005 : Int) else (805 : Int)
abbrev L1 (i : Nat) : Span := gD (AF (3 : Nat) λ (i : Nat) => Span.mk (wQ i) (X5 i)) i
abbrev O6 : Prop := PI /\ PI
abbrev z_awake_48 : List Span := (timR (CZ.mk zA (AF (0 : Nat) λ (i : Nat) => default))).fst
abbrev Mo (i : Nat) : Span := gD z_awake_48 i
abbrev vI (i : Nat) : Span := gD (AF z_awake_48.length λ (i : Nat) => Mo i) i
abbrev A2 (i : Nat) : Int := bif VQ i then (0 : Int) else bif VU i then (100 : Int) else (310 : Int)
abbrev uS (i : Nat) : Int := bif VQ i then (0 : Int) else bif VU i then (120 : Int) else (320 : Int)
abbrev I1 (i : Nat) : Span := gD (AF (3 : Nat) λ (i : Nat) => Span.mk (A2 i) (uS i)) i
abbrev Jj : Prop := true = true -> (0 : Int) <= (1 : Int) /\ (1 : Int) < (↑(3 : Nat) : Int)
abbrev z_awake_55 : Cht := Dc (I2.mk (400 : Int) (410 : Int))
abbrev z_awake_56 : List Mk := z_awake_55.ms
abbrev Pj (i : Nat) : Mk := gD z_awake_56 i
abbrev xK : List Mk := AF z_awake_56.length λ (i : Nat) => Pj i
abbrev T9 (i : Nat) : Mk := gD xK i
abbrev WR : Prop := ∀ (i : Nat), i < (3 : Nat) -> (T9 i).pl = (Pj i).pl /\ (T9 i).ht = (Pj i).ht
abbrev z_awake_61 : List Nt := z_awake_55.ns
abbrev WB (i : Nat) : Nt := gD z_awake_61 i
abbrev F2 : List Nt := AF z_awake_61.length λ (i : Nat) => WB i
abbrev Kz (i : Nat) : Nt := gD F2 i
abbrev K0 (i : Nat) : Span := (Kz i).t
abbrev tM (i : Nat) : Span := (WB i).t
abbrev D4 (i : Nat) : Span := (Kz i).s
abbrev J6 (i : Nat) : Span := (WB i).s
abbrev WT : Prop := ∀ (i : Nat), i < (2 : Nat) -> (Kz i).mi = (WB i).mi /\ (K0 i).lo = (tM i).lo /\ (K0 i).hi = (tM i).hi /\ (D4 i).lo = (J6 i).lo /\
 (D4 i).hi = (J6 i).hi
abbrev uJ : Prop := Int.ofNat (0 : Nat) = Int.ofNat (0 : Nat)
abbrev V6 : Prop := BF /\ ED /\ EE /\ BF /\ EA /\ CI /\ WR /\ CV /\ WT /\ wS /\ (uJ -> (2 : Nat) <= (12 : Nat))
abbrev OK : Prop := (1 : Nat) = (1 : Nat)
abbrev Pb : Prop := (1 : Nat) <= (1 : Nat)
abbrev vC (j : Nat) : Pr := gD (AF (1 : Nat) λ (i : Nat) => dPr (sB [Sym.elemOf [ofV (Value.int IntKind.i64 (0 : Int)), ofV (Value.int IntKind.i64 (1 : Int))]] i)) j
abbrev sM : Prop := ∀ (j : Nat), j < (1 : Nat) -> (vC j).a = (0 : Int) /\ (vC j).b = (1 : Int)
abbrev Kk : Prop := (1 : Nat) < (4611686018427387904 : Nat)
abbrev Md : Prop := PI /\ Mf /\ Kk
abbrev z_awake_78 : List Pr := (JX (Cht.mk z_awake_55.p z_awake_55.base z_awake_55.scale z_awake_55.off xK F2)).r
abbrev Nd (i : Nat) : Pr := gD z_awake_78 i
abbrev zK (i : Nat) : Pr := gD (AF z_awake_78.length λ (i : Nat) => Nd i) i
theorem DBA : (CYE) = ((BF /\ ED /\ EE /\ BF /\ EA /\ CI /\ HI /\ CV /\ HO /\ wS) /\ (BF /\ ED /\ EE /\ BF /\ EA /\
 CI /\ HI /\ CV /\ HO /\ yZ) /\ (BF /\ ED /\ EE /\ BF /\ EA /\ CI /\ (∀ (i : Nat), i < (3 : Nat) -> (vU i).pl = (Mi i).pl /\ (vU
 i).ht = (Mi i).ht) /\ CV /\ (∀ (i : Nat), i < (2 : Nat) -> (Nj i).mi = (WD i).mi /\ (D0 i).lo = (X7 i).lo /\ (D0 i).hi = (X7 i).hi /\ (uP i).lo =
 (D8 i).lo /\ (uP i).hi = (D8 i).hi) /\ yZ) /\ ((true = true -> CI /\ (∀ (i : Nat), i < (3 : Nat) -> (yE i).lo = (Pk i).lo /\ (yE i).hi = (Pk i).hi) /\
 CI /\ (∀ (i : Nat), i < (3 : Nat) -> (L1 i).lo = wQ i /\ (L1 i).hi = X5 i) /\ O6) /\ (true = true -> CI /\ (∀ (i : Nat), i < (3 : Nat) -> (vI i).lo = (Mo
 i).lo /\ (vI i).hi = (Mo i).hi) /\ CI /\ (∀ (i : Nat), i < (3 : Nat) -> (I1 i).lo = A2 i /\ (I1 i).hi = uS i) /\ O6) /\ Jj) /\ V6 /\ V6 /\
 (BF /\ ED /\ EE /\ BF /\ EA /\ CI /\ WR /\ CV /\ WT /\ Int.ofNat (1 : Nat) = Int.ofNat (1 : Nat) /\ OK /\ Pb /\ sM /\ Md) /\ (BF
 /\ ED /\ EE /\ BF /\ EA /\ CI /\ WR /\ CV /\ WT /\ OK /\ Pb /\ (∀ (j : Nat), j < (1 : Nat) -> gD (AF (1 : Nat) λ (i : Nat) => (0 : Int)) j = (0 : Int)) /\
 Md) /\ (BF /\ ED /\ EE /\ BF /\ EA /\ CI /\ WR /\ CV /\ WT /\ OK /\ Pb /\ (∀ (j : Nat), j < (1 : Nat) -> gD (AF (1 : Nat) λ (i : Nat) => (1
 : Int)) j = (1 : Int)) /\ Md) /\ ((true = true -> OK /\ (∀ (i : Nat), i < (1 : Nat) -> (zK i).a = (Nd i).a /\ (zK i).b = (Nd i).b) /\ OK /\ sM /\ Kk /\
 Kk) /\ Jj /\ Jj) /\ (BF /\ ED /\ EE /\ BF /\ EA /\ CI /\ HI /\ CV /\ HO /\ CL /\ CL /\ Int.ofNat (50 : Nat) = Int.ofNat (50 :
 Nat) /\ JC) /\ (BF /\ ED /\ EE /\ BF /\ EA /\ CI /\ HI /\ CV /\ HO /\ CL /\ CL /\ Int.ofNat (320 : Nat) = Int.ofNat (320 : Nat) /\ JC) /\
 (BF /\ ED /\ EE /\ BF /\ EA /\ CI /\ HI /\ CV /\ HO /\ CL /\ CL /\ Int.ofNat (321 : Nat) = Int.ofNat (321 : Nat) /\ JC) /\ (BF /\
 ED /\ EE /\ BF /\ EA /\ CI /\ HI /\ CV /\ HO /\ CL /\ CL /\ uJ /\ Int.ofNat (110 : Nat) = Int.ofNat (110 : Nat) /\ JC) /\ (BF /\
 ED /\ EE /\ BF /\ EA /\ CI /\ HI /\ CV /\ HO /\ CL /\ CL /\ Int.ofNat (1000 : Nat) = Int.ofNat (1000 : Nat) /\ JC) /\ (BF /\ ED /\
 EE /\ BF /\ EA /\ CI /\ HI /\ CV /\ HO /\ CL /\ CL /\ Int.ofNat (995 : Nat) = Int.ofNat (995 : Nat) /\ JC) /\ true = true) := by kernel_rfl
def CXG : List AVal -> Option (AVal × List Prop)
 | [] => some (.bool true, [])
 | _ => none
def CYB : Sym.Spec := aH CXG
theorem DKN : CYE := by
 rw [DBA]; delta BF ED EE EA CI z_awake_5 z_awake_6 nS BGR ARG HI CV z_awake_12 VS xR Lf tR yS B7 uX HO PI Mf wS CL JC yZ z_awake_27 z_awake_28 Mi vU z_awake_31 WD Nj D0 X7 uP D8 zA z_awake_39 Pk yE VQ VU wQ X5 L1 O6 z_awake_48 Mo vI A2 uS I1 Jj z_awake_55 z_awake_56 Pj xK T9 WR z_awake_61 WB F2 Kz K0 tM D4 J6 WT uJ V6 OK Pb vC sM Kk Md z_awake_78 Nd zK; simp only [AU, eq_self, implies_true, and_self, true_and, and_true, true_implies, forall_const, decide_eq_true_eq, decide_eq_false_iff_not, Int.toNat_natCast, dSpan_eSpan, dInt_eInt, AY, AW, AX, Nat.zero_add, Int.zero_sub, Nat.le_eq, Nat.succ_eq_add_one, Nat.add_one_le_iff, Bool.not_eq_true', Bool.not_eq_false', rng_length, AK, AJ]
 decide +kernel
theorem DGG : AN Try.prog CIX CYB := Wn λ xs v p h _ => by
 unfold CXG at h; split at h
 ·cases h; exact PJ (A := CWX) (ren := []) (fz := []) DCW (by kernel_rfl) (AD DQV (AD CRS (AD CQH (AD DKZ (AD DEQ (AD DCP (AD DIW (AD DJP (AD DGT (AD DJT (AD DBY AI))))))))))) DKN
 ·cases h
end Go.Bal
