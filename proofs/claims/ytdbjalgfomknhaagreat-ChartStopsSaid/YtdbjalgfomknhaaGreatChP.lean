/- Package chart: Same, One. -/
import Derived.Test.YtdbjalgfomknhaaGreatChL
import Derived.Test.YtdbjalgfomknhaaGreatChO
set_option linter.unusedVariables false
set_option linter.unusedSimpArgs false
namespace Go.Bal
open Go Go.Sym Go.Proofs
structure SS2 where
 l : List Span
 m : List Span
def dSS2 : List AVal -> Heap -> Option (SS2 × List (Nat × Nat) × List Nat)
 | [x, y], H => match Xo x H, Xo y H with
  | some (l, f), some (m, e) => some (⟨l, m⟩, [], f ++ e)
  | _, _ => none
 | _, _ => none
def eqN (f : Nat -> Bool) : Nat -> Bool
 | 0 => true
 | k + 1 => eqN f k && f k
def eqS (x : SS2) (i : Nat) : Bool := (gD x.l i).lo == (gD x.m i).lo && (gD x.l i).hi == (gD x.m i).hi
def samS (x : SS2) : Bool := x.l.length == x.m.length && eqN (eqS x) x.l.length
def C_samS : Ctr := { α := SS2, xs := λ x => [.d (DC x.l), .d (DC x.m)], val := λ x => .bool (samS x), keep := λ _ => [], pre := λ x => [x.l.length < 4611686018427387904 /\ x.m.length < 4611686018427387904] }
def sa4 (x : SS2) : Shape := { α := Nat, dflt := 0, T := λ k => ⟨[(0, .d (DC x.l)), (1, .d (DC x.m)), (5, .int k)], []⟩, inv := λ k => k <= x.l.length /\ eqN (eqS x) k = true, meas := λ k => x.l.length - k }
def BFU (x : SS2) : Ann := { ann 26 [] with loops := λ id => if id = 4 then some [sa4 x] else none }
def BEK (x : SS2) : Prop := CF Try.prog (BFU x) ANK (AH ANK) (C_samS.xs x) (AB []) (C_samS.val x) [] [] []
abbrev Wt:=SS2.l
abbrev qN:=SS2.m
attribute [go_sem] Wt qN
theorem BPJ (x : SS2) : (BEK x) = (EC (SI (ZS (Wt x)) (ZS (qN x))) (GR (samS x)) (FV (λ i=>AD (AG (NO (Wt x)) (LW (Wt x)) (NO (qN x)) (LW (qN x)) (BZ i)) (EU i (EL (Wt x))) (CS (eqN (eqS x) i))) (λ i=>JF (Lp i (EL (Wt x)) (eqN (eqS x) i)) i (ZS (Wt x)) (TH i i (EL (Wt x)) (JM i) (DK (BE i) (EL (qN x)))) (NG (Kv (ZC (Wt x) i) (ZC (qN x) i) (Ac (Wt x) i) (Ac (qN x) i)) (GR (samS x)) (λ j=>DW (AG (NO (Wt x)) (LW (Wt x)) (NO (qN x)) (LW (qN x)) (BR j i)) (Lp j (EL (Wt x)) (eqN (eqS x) j)) (EL (Wt x)) j i)) (CS (samS x))))) := by kernel_rfl
theorem AVZ {f : Nat -> Bool} : ∀ {n k : Nat}, k < n -> f k = false -> eqN f n = false
 | 0, k, h, _ => absurd h (Nat.not_lt_zero _)
 | n + 1, k, h, hg => by
  show (eqN f n && f n) = false
  by_cases e : k = n
  ·subst e; rw [hg, Bool.and_false]
  ·rw [AVZ (show k < n by omega) hg]; rfl
theorem BJQ {f : Nat -> Bool} {k : Nat} (h : eqN f k = true) (h2 : f k = true) : eqN f (k + 1) = true := by
 show (eqN f k && f k) = true
 rw [h, h2]; rfl
theorem BXB (x : SS2) (h : x.l.length < 4611686018427387904 /\ x.m.length < 4611686018427387904) : BEK x := by
 rw [BPJ]<;> delta JH Hi BI BF MM ON BY EL AF CN CO AS KA BE EU EC JL FY MN NT LS HA Ey LC SI Wt qN AD AG AZ AX AE BM AW BL BA HI AV GH DK BX DO HH CE OJ CS DZ JB ED BR LG IH NO JM YT On GR QV VQ MQ HZ IR BZ DW XY FV LW JF vT WB NG Ac ZC ZS TH Lp Kv; simp only [CC, eq_self, implies_true, forall_const]
 refine ⟨λ hn => ?_, λ hn => ⟨⟨0, rfl, Nat.zero_le _, rfl⟩, ?_⟩⟩
 ·unfold samS
  have : (x.l.length == x.m.length) = false := by simp at hn ⊢; omega
  rw [this]; rfl
 ·have hl : (x.l.length == x.m.length) = true := by simp at hn ⊢; omega
  have hl2 : x.l.length = x.m.length := by simpa using hl
  rintro k ⟨hk, he⟩
  refine ⟨λ hlt => ⟨⟨⟨by omega, by omega⟩, by omega, by omega⟩, λ hc => ?_, λ hc => ⟨k + 1, by rw [TC (by omega) (by omega)]; rfl, ⟨by omega, BJQ he ?_⟩, by omega⟩⟩, λ hge => ?_⟩
  ·unfold samS
   rw [AVZ (f := eqS x) (show k < x.l.length by omega) (by rw [Bool.and_true] at hc; exact hc), Bool.and_false]
  ·rw [Bool.and_true] at hc; exact hc
  ·obtain rfl : k = x.l.length := by omega
   unfold samS; rw [hl, he]; rfl
theorem BNF : AK Try.prog AMK (C_samS.spec dSS2) := VV C_samS BFU [] [] BGD (λ _ => by kernel_rfl) (λ _ => AC) (λ (x : SS2) h => BXB x h) (λ _ => WY rfl rfl) _
structure PP2 where
 l : List Pr
 m : List Pr
def dPP2 : List AVal -> Heap -> Option (PP2 × List (Nat × Nat) × List Nat)
 | [x, y], H => match dPrs x H, dPrs y H with
  | some (l, f), some (m, e) => some (⟨l, m⟩, [], f ++ e)
  | _, _ => none
 | _, _ => none
def eqP (x : PP2) (i : Nat) : Bool := (gD x.l i).a == (gD x.m i).a && (gD x.l i).b == (gD x.m i).b
def samP (x : PP2) : Bool := x.l.length == x.m.length && eqN (eqP x) x.l.length
def C_samP : Ctr := { α := PP2, xs := λ x => [.d (Kw x.l), .d (Kw x.m)], val := λ x => .bool (samP x), keep := λ _ => [], pre := λ x => [x.l.length < 4611686018427387904 /\ x.m.length < 4611686018427387904] }
def sq4 (x : PP2) : Shape := { α := Nat, dflt := 0, T := λ k => ⟨[(0, .d (Kw x.l)), (1, .d (Kw x.m)), (5, .int k)], []⟩, inv := λ k => k <= x.l.length /\ eqN (eqP x) k = true, meas := λ k => x.l.length - k }
def BJJ (x : PP2) : Ann := { ann 26 [] with loops := λ id => if id = 4 then some [sq4 x] else none }
def BEQ (x : PP2) : Prop := CF Try.prog (BJJ x) AOW (AH AOW) (C_samP.xs x) (AB []) (C_samP.val x) [] [] []
abbrev wV:=PP2.l
abbrev Xu:=PP2.m
abbrev Ll a:=IE (wV a)
abbrev eR a:=BM (IE a)
attribute [go_sem] wV Xu Ll eR
theorem BNB (x : PP2) : (BEQ x) = (EC (SI (BE (Ll x)) (BE (IE (Xu x)))) (GR (samP x)) (FV (λ i=>AD (Be (BM (Ll x)) (AF (λ j=>Iw j (Ll x) (VP (wV x) j) (wV x) j)) (eR (Xu x)) (λ j=>Iw j (IE (Xu x)) (VP (Xu x) j) (Xu x) j) (BZ i)) (EU i (Ll x)) (CS (eqN (eqP x) i))) (λ i=>OS (Lp i (Ll x) (eqN (eqP x) i)) i (Ll x) (TH i i (Ll x) (JM i) (DK (BE i) (IE (Xu x)))) (NG (Kv (VP (wV x) i) (VP (Xu x) i) (Lf (wV x) i) (Lf (Xu x) i)) (GR (samP x)) (λ j=>DW (Be (BM (Ll x)) (AF (λ k=>Iw k (Ll x) (VP (wV x) k) (wV x) k)) (eR (Xu x)) (λ k=>Iw k (IE (Xu x)) (VP (Xu x) k) (Xu x) k) (BR j i)) (Lp j (Ll x) (eqN (eqP x) j)) (Ll x) j i)) (CS (samP x))))) := by kernel_rfl
theorem BWE (x : PP2) (h : x.l.length < 4611686018427387904 /\ x.m.length < 4611686018427387904) : BEQ x := by
 rw [BNB]<;> delta JH Hi MM ON BY AF CN CO AS BE EU EC JL FY MN NT LS HA Ey LC SI QW QS IE Xg wV Xu AD AG AX AE BM BA HI GH DK BX DO HH CE CS DZ JB ED BR Lf LG IH VP JM GR QV VQ MQ HZ IR BZ DW FV JF vT WB NG Ll Zs L9 OS TH Iw Be Lp Kv eR; simp only [CC, eq_self, implies_true, forall_const]
 refine ⟨λ hn => ?_, λ hn => ⟨⟨0, rfl, Nat.zero_le _, rfl⟩, ?_⟩⟩
 ·unfold samP
  have : (x.l.length == x.m.length) = false := by simp at hn ⊢; omega
  rw [this]; rfl
 ·have hl : (x.l.length == x.m.length) = true := by simp at hn ⊢; omega
  have hl2 : x.l.length = x.m.length := by simpa using hl
  rintro k ⟨hk, he⟩
  refine ⟨λ hlt => ⟨⟨⟨by omega, by omega⟩, by omega, by omega⟩, λ hc => ?_, λ hc => ⟨k + 1, by rw [TC (by omega) (by omega)]; rfl, ⟨by omega, BJQ he ?_⟩, by omega⟩⟩, λ hge => ?_⟩
  ·unfold samP
   rw [AVZ (f := eqP x) (show k < x.l.length by omega) (by rw [Bool.and_true] at hc; exact hc), Bool.and_false]
  ·rw [Bool.and_true] at hc; exact hc
  ·obtain rfl : k = x.l.length := by omega
   unfold samP; rw [hl, he]; rfl
theorem AYZ : AK Try.prog AAN (C_samP.spec dPP2) := VV C_samP BJJ [] [] BDG (λ _ => by kernel_rfl) (λ _ => AC) (λ (x : PP2) h => BWE x h) (λ _ => WY rfl rfl) _
def oneM (x : I2) : Cht := ⟨⟨10, 12⟩, 500, 10, 5, [⟨0, 20⟩, ⟨10, 50⟩, ⟨30, 30⟩], [⟨0, ⟨0, 0⟩, ⟨0, 2000⟩⟩, ⟨2, ⟨x.a, x.b⟩, ⟨0, 2000⟩⟩]⟩
def BUC (x : I2) : Prop := CF Try.prog (ann 21 []) BHJ (AH BHJ) (xI2 x) (AB []) (.d (Ak (oneM x))) [] [] [3064, 3192]
abbrev Sd:=oneM
attribute [go_sem] Sd
theorem BUM (x : I2) : (BUC x) = (AD (BO (FK (Sd x)) 10) (AZ (FK (Sd x)) 12) (EX (Vq (Sd x) 500) (Ug (Sd x) 10) (Tz (Sd x) 5) (BY (AU (Sd x)) 3) (Sb 3) (λ i=>HY i (Sd x) (Jh i 0 0 (SY (Fi (CM i)) 0 10 30)) (Jh i 0 20 (SY (Fi (CM i)) 0 50 30))) (BY (AO (Sd x)) 2) (Sb 2) (AF (λ i=>FX i (Sd x) (AG (MC (Sd x) i (Jh i 0 0 2)) (BO (BD (Sd x) i) (Jh i 0 0 (Ir x))) (AZ (BD (Sd x) i) (Jh i 0 0 (Cu x))) (BO (BK (Sd x) i) (Jh i 0 0 0)) (AZ (BK (Sd x) i) (Jh i 0 2000 2000))))))) := by kernel_rfl
def BQF := pD dI2 λ x => .d (Ak (oneM x))
theorem BVM : AK Try.prog BEE BQF := Ki xI2 hI2 λ g _ => Pn (A := ann 21 []) (ren := []) (fz := [3064, 3192]) BXP (by kernel_rfl) AC (by
 show BUC g; rw [BUM]<;> delta BI BF EN EB EA BY AF CN CO AS EU LS ET GW FK HV IB HK GV FU HC DV FW EY RX Ai cQ Ir Cu Sd AD CI AU AG AZ AX Sb BD AO AR DD BA BK BO BW BV CK FX FQ CM MC EX SY Fi HY Jh Tz Ug Vq; simp only [CC, eq_self, implies_true, forall_const]
 refine ⟨rfl, rfl, rfl, rfl, rfl, rfl, by decide, λ j hj => ?_, rfl, by decide, λ j hj => ?_⟩
 ·have hj : j < 3 := hj
  rcases j with _ | _ | _ | j
  ·exact ⟨rfl, rfl⟩
  ·exact ⟨rfl, rfl⟩
  ·exact ⟨rfl, rfl⟩
  ·omega
 ·have hj : j < 2 := hj
  rcases j with _ | _ | j
  ·exact ⟨rfl, rfl, rfl, rfl, rfl⟩
  ·exact ⟨rfl, rfl, rfl, rfl, rfl⟩
  ·omega)
def AZW : Ann := ann 249 [(BEE, BQF), (AGR, C_Stages.spec aM), (APG, C_Times.spec dCZ), (AMK, C_samS.spec dSS2), (AAL, C_Stops.spec aM), (AAM, C_Pairs.spec aM), (zH, C_prov.spec dPrv), (AAN, C_samP.spec dPP2), (ANI, C_Stage.spec dCZI), (AWU, C_Peak.spec dCZ2), (APM, C_First.spec dCZI)]
def AYC : Prop := CF Try.prog AZW AOH (AH AOH) [] (AB []) (.bool true) [] [] []
abbrev FE : Prop := Int.ofNat (10 : Nat) = Int.ofNat (10 : Nat)
abbrev QD : Prop := Int.ofNat (12 : Nat) = Int.ofNat (12 : Nat)
abbrev QF : Prop := Int.ofNat (500 : Nat) = Int.ofNat (500 : Nat)
abbrev QC : Prop := Int.ofNat (5 : Nat) = Int.ofNat (5 : Nat)
abbrev LF : Prop := (3 : Nat) = (3 : Nat)
abbrev z_awake_5 : Cht := oneM (I2.mk (310 : Int) (320 : Int))
abbrev z_awake_6 : List Mk := z_awake_5.ms
abbrev pK (i : Nat) : Mk := gD z_awake_6 i
abbrev B8 : List Mk := ME z_awake_6.length λ (i : Nat) => pK i
abbrev P0 (i : Nat) : Mk := gD B8 i
abbrev XK : Prop := ∀ (i : Nat), i < (3 : Nat) -> (P0 i).pl = (pK i).pl /\ (P0 i).ht = (pK i).ht
abbrev NA : Prop := (2 : Nat) = (2 : Nat)
abbrev z_awake_12 : List Nt := z_awake_5.ns
abbrev Vb (i : Nat) : Nt := gD z_awake_12 i
abbrev vM : List Nt := ME z_awake_12.length λ (i : Nat) => Vb i
abbrev gV (i : Nat) : Nt := gD vM i
abbrev uB (i : Nat) : Span := (gV i).t
abbrev tW (i : Nat) : Span := (Vb i).t
abbrev sW (i : Nat) : Span := (gV i).s
abbrev vJ (i : Nat) : Span := (Vb i).s
abbrev YA : Prop := ∀ (i : Nat), i < (2 : Nat) -> (gV i).mi = (Vb i).mi /\ (uB i).lo = (tW i).lo /\ (uB i).hi = (tW i).hi /\ (sW i).lo = (vJ i).lo /\
 (sW i).hi = (vJ i).hi
abbrev Og : Prop := (3 : Nat) < (4611686018427387904 : Nat)
abbrev gN : Prop := (2 : Nat) < (4611686018427387904 : Nat)
abbrev tL : Prop := Og /\ gN
abbrev LY : Prop := (0 : Nat) = (0 : Nat)
abbrev Bc : Prop := Og /\ gN /\ (0 : Nat) < (4611686018427387904 : Nat)
abbrev sF : Prop := LY /\ LY /\ Bc
abbrev z_awake_27 : Cht := oneM (I2.mk (300 : Int) (300 : Int))
abbrev z_awake_28 : List Mk := z_awake_27.ms
abbrev dA (i : Nat) : Mk := gD z_awake_28 i
abbrev tJ (i : Nat) : Mk := gD (ME z_awake_28.length λ (i : Nat) => dA i) i
abbrev z_awake_31 : List Nt := z_awake_27.ns
abbrev Xm (i : Nat) : Nt := gD z_awake_31 i
abbrev fF (i : Nat) : Nt := gD (ME z_awake_31.length λ (i : Nat) => Xm i) i
abbrev uS (i : Nat) : Span := (fF i).t
abbrev rW (i : Nat) : Span := (Xm i).t
abbrev uE (i : Nat) : Span := (fF i).s
abbrev sJ (i : Nat) : Span := (Xm i).s
abbrev tB : Cht := Cht.mk z_awake_5.p z_awake_5.base z_awake_5.scale z_awake_5.off B8 vM
abbrev z_awake_39 : List Span := (TB tB).fst
abbrev fM (i : Nat) : Span := gD z_awake_39 i
abbrev rO (i : Nat) : Span := gD (ME z_awake_39.length λ (i : Nat) => fM i) i
abbrev Uc (i : Nat) : Bool := decide (i = (0 : Nat))
abbrev Uo (i : Nat) : Bool := decide (i - (1 : Nat) = (0 : Nat))
abbrev tK (i : Nat) : Int := bif Uc i then (695 : Int) else bif Uo i then (995 : Int) else (795 : Int)
abbrev uK (i : Nat) : Int := bif Uc i then (705 : Int) else bif Uo i then (1005 : Int) else (805 : Int)
abbrev sY (i : Nat) : Span := gD (ME (3 : Nat) λ (i : Nat) => Span.mk (tK i) (uK i)) i
abbrev uN : Prop := Og /\ Og
abbrev z_awake_48 : List Span := (dX (CZ.mk tB (ME (0 : Nat) λ (i : Nat) => default))).fst
abbrev eZ (i : Nat) : Span := gD z_awake_48 i
abbrev tP (i : Nat) : Span := gD (ME z_awake_48.length λ (i : Nat) => eZ i) i
abbrev rU (i : Nat) : Int := bif Uc i then (0 : Int) else bif Uo i then (100 : Int) else (310 : Int)
abbrev sT (i : Nat) : Int := bif Uc i then (0 : Int) else bif Uo i then (120 : Int) else (320 : Int)
abbrev sL (i : Nat) : Span := gD (ME (3 : Nat) λ (i : Nat) => Span.mk (rU i) (sT i)) i
abbrev gW : Prop := true = true -> (0 : Int) <= (1 : Int) /\ (1 : Int) < (↑(3 : Nat) : Int)
abbrev z_awake_55 : Cht := oneM (I2.mk (400 : Int) (410 : Int))
abbrev z_awake_56 : List Mk := z_awake_55.ms
abbrev dV (i : Nat) : Mk := gD z_awake_56 i
abbrev sA : List Mk := ME z_awake_56.length λ (i : Nat) => dV i
abbrev vK (i : Nat) : Mk := gD sA i
abbrev Ur : Prop := ∀ (i : Nat), i < (3 : Nat) -> (vK i).pl = (dV i).pl /\ (vK i).ht = (dV i).ht
abbrev z_awake_61 : List Nt := z_awake_55.ns
abbrev Wy (i : Nat) : Nt := gD z_awake_61 i
abbrev sS : List Nt := ME z_awake_61.length λ (i : Nat) => Wy i
abbrev fT (i : Nat) : Nt := gD sS i
abbrev tQ (i : Nat) : Span := (fT i).t
abbrev sC (i : Nat) : Span := (Wy i).t
abbrev uR (i : Nat) : Span := (fT i).s
abbrev sO (i : Nat) : Span := (Wy i).s
abbrev Uq : Prop := ∀ (i : Nat), i < (2 : Nat) -> (fT i).mi = (Wy i).mi /\ (tQ i).lo = (sC i).lo /\ (tQ i).hi = (sC i).hi /\ (uR i).lo = (sO i).lo /\
 (uR i).hi = (sO i).hi
abbrev tO : Prop := FE /\ QD /\ QF /\ FE /\ QC /\ LF /\ Ur /\ NA /\ Uq /\ tL
abbrev Nv : Prop := (1 : Nat) = (1 : Nat)
abbrev eP : Prop := (1 : Nat) <= (1 : Nat)
abbrev uU (j : Nat) : Pr := gD (ME (1 : Nat) λ (i : Nat) => dPr (rF [Sym.elemOf [ofV (Value.int IntKind.i64 (0 : Int)), ofV (Value.int IntKind.i64 (1 : Int))]] i)) j
abbrev uL : Prop := ∀ (j : Nat), j < (1 : Nat) -> (uU j).a = (0 : Int) /\ (uU j).b = (1 : Int)
abbrev eL : Prop := (1 : Nat) < (4611686018427387904 : Nat)
abbrev gM : Prop := Og /\ gN /\ eL
abbrev z_awake_77 : List Pr := (ZU (Cht.mk z_awake_55.p z_awake_55.base z_awake_55.scale z_awake_55.off sA sS)).r
abbrev fX (i : Nat) : Pr := gD z_awake_77 i
abbrev tF (i : Nat) : Pr := gD (ME z_awake_77.length λ (i : Nat) => fX i) i
theorem BDW : (AYC) = ((FE /\ QD /\ QF /\ FE /\ QC /\ LF /\ XK /\ NA /\ YA /\ tL) /\ (FE /\ QD /\ QF /\ FE /\ QC /\
 LF /\ XK /\ NA /\ YA /\ sF) /\ (FE /\ QD /\ QF /\ FE /\ QC /\ LF /\ (∀ (i : Nat), i < (3 : Nat) -> (tJ i).pl = (dA i).pl /\ (tJ
 i).ht = (dA i).ht) /\ NA /\ (∀ (i : Nat), i < (2 : Nat) -> (fF i).mi = (Xm i).mi /\ (uS i).lo = (rW i).lo /\ (uS i).hi = (rW i).hi /\ (uE i).lo =
 (sJ i).lo /\ (uE i).hi = (sJ i).hi) /\ sF) /\ ((true = true -> LF /\ (∀ (i : Nat), i < (3 : Nat) -> (rO i).lo = (fM i).lo /\ (rO i).hi = (fM i).hi) /\
 LF /\ (∀ (i : Nat), i < (3 : Nat) -> (sY i).lo = tK i /\ (sY i).hi = uK i) /\ uN) /\ (true = true -> LF /\ (∀ (i : Nat), i < (3 : Nat) -> (tP i).lo = (eZ
 i).lo /\ (tP i).hi = (eZ i).hi) /\ LF /\ (∀ (i : Nat), i < (3 : Nat) -> (sL i).lo = rU i /\ (sL i).hi = sT i) /\ uN) /\ gW) /\ tO /\ tO /\
 (FE /\ QD /\ QF /\ FE /\ QC /\ LF /\ Ur /\ NA /\ Uq /\ Int.ofNat (1 : Nat) = Int.ofNat (1 : Nat) /\ Nv /\ eP /\ uL /\ gM) /\ (FE
 /\ QD /\ QF /\ FE /\ QC /\ LF /\ Ur /\ NA /\ Uq /\ Nv /\ eP /\ (∀ (j : Nat), j < (1 : Nat) -> gD (ME (1 : Nat) λ (i : Nat) => (0 : Int)) j = (0 : Int)) /\
 gM) /\ (FE /\ QD /\ QF /\ FE /\ QC /\ LF /\ Ur /\ NA /\ Uq /\ Nv /\ eP /\ (∀ (j : Nat), j < (1 : Nat) -> gD (ME (1 : Nat) λ (i : Nat) => (1
 : Int)) j = (1 : Int)) /\ gM) /\ ((true = true -> Nv /\ (∀ (i : Nat), i < (1 : Nat) -> (tF i).a = (fX i).a /\ (tF i).b = (fX i).b) /\ Nv /\ uL /\ eL /\
 eL) /\ gW /\ gW) /\ (FE /\ QD /\ QF /\ FE /\ QC /\ LF /\ XK /\ NA /\ YA /\ LY /\ LY /\ Int.ofNat (50 : Nat) = Int.ofNat (50 :
 Nat) /\ Bc) /\ (FE /\ QD /\ QF /\ FE /\ QC /\ LF /\ XK /\ NA /\ YA /\ LY /\ LY /\ Int.ofNat (320 : Nat) = Int.ofNat (320 : Nat) /\ Bc) /\
 (FE /\ QD /\ QF /\ FE /\ QC /\ LF /\ XK /\ NA /\ YA /\ LY /\ LY /\ Int.ofNat (321 : Nat) = Int.ofNat (321 : Nat) /\ Bc) /\ (FE /\
 QD /\ QF /\ FE /\ QC /\ LF /\ XK /\ NA /\ YA /\ LY /\ LY /\ Int.ofNat (0 : Nat) = Int.ofNat (0 : Nat) /\ Int.ofNat (110 : Nat) = Int.ofNat (110 : Nat) /\
 Bc) /\ (FE /\ QD /\ QF /\ FE /\ QC /\ LF /\ XK /\ NA /\ YA /\ LY /\ LY /\ Int.ofNat (1000 : Nat) = Int.ofNat (1000 : Nat) /\ Bc) /\
 (FE /\ QD /\ QF /\ FE /\ QC /\ LF /\ XK /\ NA /\ YA /\ LY /\ LY /\ Int.ofNat (995 : Nat) = Int.ofNat (995 : Nat) /\ Bc) /\ true = true) := by
 kernel_rfl
def AYD : List AVal -> Option (AVal × List Prop)
 | [] => some (.bool true, [])
 | _ => none
def BAJ : Sym.Spec := xA AYD
theorem BNU : AYC := by
 rw [BDW]; delta FE QD QF QC LF z_awake_5 z_awake_6 pK B8 P0 XK NA z_awake_12 Vb vM gV uB tW sW vJ YA Og gN tL LY Bc sF z_awake_27 z_awake_28 dA tJ z_awake_31 Xm fF uS rW uE sJ tB z_awake_39 fM rO Uc Uo tK uK sY uN z_awake_48 eZ tP rU sT sL gW z_awake_55 z_awake_56 dV sA vK Ur z_awake_61 Wy sS fT tQ sC uR sO Uq tO Nv eP uU uL eL gM z_awake_77 fX tF; simp only [CC, eq_self, implies_true, forall_const]
 decide +kernel
theorem BLK : AK Try.prog ALV BAJ := U2 λ xs v p h _ => by
 unfold AYD at h; split at h
 ·cases h; exact Pn (A := AZW) (ren := []) (fz := []) BGK (by kernel_rfl) (AA BVM (AA BIC (AA BHY (AA BNF (AA AQL (AA AQP (AA AYO (AA AYZ (AA BGR (AA BOD (AA BIQ AC))))))))))) BNU
 ·cases h
end Go.Bal
