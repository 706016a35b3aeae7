/- Package chart: Same, One. -/
import Derived.Test.YtdbjalgfomknhaaChL
set_option linter.unusedVariables false
set_option linter.unusedSimpArgs false
namespace Go.Bal
open Go Go.Sym Go.Proofs
structure SS2 where
 l : List Span
 m : List Span
def dSS2 : List AVal -> Heap -> Option (SS2 × List (Nat × Nat) × List Nat)
 | [x, y], H => match YC x H, YC y H with
  | some (l, f), some (m, e) => some (⟨l, m⟩, [], f ++ e)
  | _, _ => none
 | _, _ => none
def eqN (f : Nat -> Bool) : Nat -> Bool
 | 0 => true
 | k + 1 => eqN f k && f k
def eqS (x : SS2) (i : Nat) : Bool := (gD x.l i).lo == (gD x.m i).lo && (gD x.l i).hi == (gD x.m i).hi
def samS (x : SS2) : Bool := x.l.length == x.m.length && eqN (eqS x) x.l.length
def C_samS : Ctr := { α := SS2, xs := λ x => [.d (AX x.l), .d (AX x.m)], val := λ x => .bool (samS x), keep := λ _ => [], pre := λ x => [x.l.length < 4611686018427387904 /\ x.m.length < 4611686018427387904] }
def sa4 (x : SS2) : Shape := { α := Nat, dflt := 0, T := λ k => ⟨[(0, .d (AX x.l)), (1, .d (AX x.m)), (5, .int k)], []⟩, inv := λ k => k <= x.l.length /\ eqN (eqS x) k = true, meas := λ k => x.l.length - k }
def CJQ (x : SS2) : Ann := { ann 26 [] with loops := λ id => if id = 4 then some [sa4 x] else none }
def CHM (x : SS2) : Prop := BB Try.prog (CJQ x) BTF (AL BTF) (C_samS.xs x) (AG []) (C_samS.val x) [] [] []
theorem CQL (x : SS2) : (CHM x) = (bif (↑x.l.length : Int) != (↑x.m.length : Int) then samS x = false else (∃ (a : Nat), (x.l.length = x.l.length /\ (∀ (i : Nat), i < x.l.length -> (gD x.l i).lo = (gD x.l i).lo /\
 (gD x.l i).hi = (gD x.l i).hi) /\ x.m.length = x.m.length /\ (∀ (i : Nat), i < x.m.length -> (gD x.m i).lo = (gD x.m i).lo /\ (gD x.m i).hi = (gD x.m i).hi) /\ (↑a : Int) = 0) /\ a <= x.l.length /\ eqN (eqS x) a = true) /\ ∀ (a :
 Nat), a <= x.l.length /\ eqN (eqS x) a = true -> bif decide ((↑a : Int) < (↑x.l.length : Int)) then ((0 <= (↑a : Int) /\ (↑a : Int) < (↑x.l.length : Int)) /\ 0 <= (↑a : Int) /\ (↑a : Int) < (↑x.m.length : Int)) /\ bif !((gD x.l
 a).lo == (gD x.m a).lo && ((gD x.l a).hi == (gD x.m a).hi && true)) then samS x = false else ∃ (a_2 : Nat), (x.l.length = x.l.length /\ (∀ (i : Nat), i < x.l.length -> (gD x.l i).lo = (gD x.l i).lo /\ (gD x.l i).hi = (gD
 x.l i).hi) /\ x.m.length = x.m.length /\ (∀ (i : Nat), i < x.m.length -> (gD x.m i).lo = (gD x.m i).lo /\ (gD x.m i).hi = (gD x.m i).hi) /\ (↑a_2 : Int) = IntKind.i64.wrap ((↑a : Int) + 1)) /\ (a_2 <= x.l.length /\ eqN (eqS x)
 a_2 = true) /\ x.l.length - a_2 < x.l.length - a else samS x = true) := by kernel_rfl
theorem CAI {f : Nat -> Bool} : ∀ {n k : Nat}, k < n -> f k = false -> eqN f n = false
 | 0, k, h, _ => absurd h (Nat.not_lt_zero _)
 | n + 1, k, h, hg => by
  show (eqN f n && f n) = false
  by_cases e : k = n
  ·subst e; rw [hg, Bool.and_false]
  ·rw [CAI (show k < n by omega) hg]; rfl
theorem CJP {f : Nat -> Bool} {k : Nat} (h : eqN f k = true) (h2 : f k = true) : eqN f (k + 1) = true := by
 show (eqN f k && f k) = true
 rw [h, h2]; rfl
theorem CXN (x : SS2) (h : x.l.length < 4611686018427387904 /\ x.m.length < 4611686018427387904) : CHM x := by
 rw [CQL]; simp only [CC, eq_self, implies_true, forall_const]
 refine ⟨λ hn => ?_, λ hn => ⟨⟨0, rfl, Nat.zero_le _, rfl⟩, ?_⟩⟩
 ·unfold samS
  have : (x.l.length == x.m.length) = false := by simp at hn ⊢; omega
  rw [this]; rfl
 ·have hl : (x.l.length == x.m.length) = true := by simp at hn ⊢; omega
  have hl2 : x.l.length = x.m.length := by simpa using hl
  rintro k ⟨hk, he⟩
  refine ⟨λ hlt => ⟨⟨⟨by omega, by omega⟩, by omega, by omega⟩, λ hc => ?_, λ hc => ⟨k + 1, by rw [FC (by omega) (by omega)]; rfl, ⟨by omega, CJP he ?_⟩, by omega⟩⟩, λ hge => ?_⟩
  ·unfold samS
   rw [CAI (f := eqS x) (show k < x.l.length by omega) (by rw [Bool.and_true] at hc; exact hc), Bool.and_false]
  ·rw [Bool.and_true] at hc; exact hc
  ·obtain rfl : k = x.l.length := by omega
   unfold samS; rw [hl, he]; rfl
theorem CFJ : AM Try.prog ANR (C_samS.spec dSS2) := LM C_samS CJQ [] [] CLK (λ _ => by kernel_rfl) (λ _ => AJ) (λ (x : SS2) h => CXN x h) (λ _ => OA rfl rfl) _
structure PP2 where
 l : List Pr
 m : List Pr
def dPP2 : List AVal -> Heap -> Option (PP2 × List (Nat × Nat) × List Nat)
 | [x, y], H => match dPrs x H, dPrs y H with
  | some (l, f), some (m, e) => some (⟨l, m⟩, [], f ++ e)
  | _, _ => none
 | _, _ => none
def eqP (x : PP2) (i : Nat) : Bool := (gD x.l i).a == (gD x.m i).a && (gD x.l i).b == (gD x.m i).b
def samP (x : PP2) : Bool := x.l.length == x.m.length && eqN (eqP x) x.l.length
def C_samP : Ctr := { α := PP2, xs := λ x => [.d (Cx x.l), .d (Cx x.m)], val := λ x => .bool (samP x), keep := λ _ => [], pre := λ x => [x.l.length < 4611686018427387904 /\ x.m.length < 4611686018427387904] }
def sq4 (x : PP2) : Shape := { α := Nat, dflt := 0, T := λ k => ⟨[(0, .d (Cx x.l)), (1, .d (Cx x.m)), (5, .int k)], []⟩, inv := λ k => k <= x.l.length /\ eqN (eqP x) k = true, meas := λ k => x.l.length - k }
def CMA (x : PP2) : Ann := { ann 26 [] with loops := λ id => if id = 4 then some [sq4 x] else none }
def CMH (x : PP2) : Prop := BB Try.prog (CMA x) BLS (AL BLS) (C_samP.xs x) (AG []) (C_samP.val x) [] [] []
theorem CQO (x : PP2) : (CMH x) = (bif (↑x.l.length : Int) != (↑x.m.length : Int) then samP x = false else (∃ (a : Nat), (x.l.length = x.l.length /\ (∀ (i : Nat), i < x.l.length -> (gD x.l i).a = (gD x.l i).a /\ (gD
 x.l i).b = (gD x.l i).b) /\ x.m.length = x.m.length /\ (∀ (i : Nat), i < x.m.length -> (gD x.m i).a = (gD x.m i).a /\ (gD x.m i).b = (gD x.m i).b) /\ (↑a : Int) = 0) /\ a <= x.l.length /\ eqN (eqP x) a = true) /\ ∀ (a : Nat), a <=
 x.l.length /\ eqN (eqP x) a = true -> bif decide ((↑a : Int) < (↑x.l.length : Int)) then ((0 <= (↑a : Int) /\ (↑a : Int) < (↑x.l.length : Int)) /\ 0 <= (↑a : Int) /\ (↑a : Int) < (↑x.m.length : Int)) /\ bif !((gD x.l a).a == (gD
 x.m a).a && ((gD x.l a).b == (gD x.m a).b && true)) then samP x = false else ∃ (a_2 : Nat), (x.l.length = x.l.length /\ (∀ (i : Nat), i < x.l.length -> (gD x.l i).a = (gD x.l i).a /\ (gD x.l i).b = (gD x.l i).b) /\
 x.m.length = x.m.length /\ (∀ (i : Nat), i < x.m.length -> (gD x.m i).a = (gD x.m i).a /\ (gD x.m i).b = (gD x.m i).b) /\ (↑a_2 : Int) = IntKind.i64.wrap ((↑a : Int) + 1)) /\ (a_2 <= x.l.length /\ eqN (eqP x) a_2 = true) /\
 x.l.length - a_2 < x.l.length - a else samP x = true) := by kernel_rfl
theorem CVV (x : PP2) (h : x.l.length < 4611686018427387904 /\ x.m.length < 4611686018427387904) : CMH x := by
 rw [CQO]; simp only [CC, eq_self, implies_true, forall_const]
 refine ⟨λ hn => ?_, λ hn => ⟨⟨0, rfl, Nat.zero_le _, rfl⟩, ?_⟩⟩
 ·unfold samP
  have : (x.l.length == x.m.length) = false := by simp at hn ⊢; omega
  rw [this]; rfl
 ·have hl : (x.l.length == x.m.length) = true := by simp at hn ⊢; omega
  have hl2 : x.l.length = x.m.length := by simpa using hl
  rintro k ⟨hk, he⟩
  refine ⟨λ hlt => ⟨⟨⟨by omega, by omega⟩, by omega, by omega⟩, λ hc => ?_, λ hc => ⟨k + 1, by rw [FC (by omega) (by omega)]; rfl, ⟨by omega, CJP he ?_⟩, by omega⟩⟩, λ hge => ?_⟩
  ·unfold samP
   rw [CAI (f := eqP x) (show k < x.l.length by omega) (by rw [Bool.and_true] at hc; exact hc), Bool.and_false]
  ·rw [Bool.and_true] at hc; exact hc
  ·obtain rfl : k = x.l.length := by omega
   unfold samP; rw [hl, he]; rfl
theorem CPH : AM Try.prog BSG (C_samP.spec dPP2) := LM C_samP CMA [] [] CKI (λ _ => by kernel_rfl) (λ _ => AJ) (λ (x : PP2) h => CVV x h) (λ _ => OA rfl rfl) _
def YG (x : I2) : Cht := ⟨⟨10, 12⟩, 500, 10, 5, [⟨0, 20⟩, ⟨10, 50⟩, ⟨30, 30⟩], [⟨0, ⟨0, 0⟩, ⟨0, 2000⟩⟩, ⟨2, ⟨x.a, x.b⟩, ⟨0, 2000⟩⟩]⟩
def CUA (x : I2) : Prop := BB Try.prog (ann 21 []) CNU (AL CNU) (xI2 x) (AG []) (.d (YE (YG x))) [] [] [3064, 3192]
theorem CWZ (x : I2) : (CUA x) = ((YG x).p.lo = 10 /\ (YG x).p.hi = 12 /\ (YG x).base = 500 /\ (YG x).scale = 10 /\ (YG x).off = 5 /\ (YG x).ms.length = 3 /\ 3 <= 3 /\ (∀ (j : Nat), j < (YG x).ms.length -> ((gD
 (YG x).ms j).pl = bif decide (0 + j = 0) then 0 else bif decide (0 + j - 1 = 0) then 10 else 30) /\ (gD (YG x).ms j).ht = bif decide (0 + j = 0) then 20 else bif decide (0 + j - 1 = 0) then 50 else 30) /\ (YG
 x).ns.length = 2 /\ 2 <= 2 /\ ∀ (j : Nat), j < (YG x).ns.length -> ((gD (YG x).ns j).mi = bif decide (0 + j = 0) then 0 else 2) /\ ((gD (YG x).ns j).t.lo = bif decide (0 + j = 0) then 0 else x.a) /\ ((gD (YG x).ns
 j).t.hi = bif decide (0 + j = 0) then 0 else x.b) /\ ((gD (YG x).ns j).s.lo = bif decide (0 + j = 0) then 0 else 0) /\ (gD (YG x).ns j).s.hi = bif decide (0 + j = 0) then 2000 else 2000) := by kernel_rfl
def CUI := pD dI2 λ x => .d (YE (YG x))
theorem CXW : AM Try.prog CON CUI := WW xI2 hI2 λ g _ => UV (A := ann 21 []) (ren := []) (fz := [3064, 3192]) CXC (by kernel_rfl) AJ (by
 show CUA g; rw [CWZ]; simp only [CC, eq_self, implies_true, forall_const]
 refine ⟨rfl, rfl, rfl, rfl, rfl, rfl, by decide, λ j hj => ?_, rfl, by decide, λ j hj => ?_⟩
 ·have hj : j < 3 := hj
  rcases j with _ | _ | _ | j
  ·exact ⟨rfl, rfl⟩
  ·exact ⟨rfl, rfl⟩
  ·exact ⟨rfl, rfl⟩
  ·omega
 ·have hj : j < 2 := hj
  rcases j with _ | _ | j
  ·exact ⟨rfl, rfl, rfl, rfl, rfl⟩
  ·exact ⟨rfl, rfl, rfl, rfl, rfl⟩
  ·omega)
def CDA : Ann := ann 249 [(CON, CUI), (BEW, C_Stages.spec dC1), (ANA, C_Times.spec dCZ), (ANR, C_samS.spec dSS2), (BLT, C_Stops.spec dC1), (BSW, C_Pairs.spec dC1), (ASZ, C_prov.spec dPrv), (BSG, C_samP.spec dPP2), (APQ, C_Stage.spec dCZI), (CAV, C_Peak.spec dCZ2), (BPJ, C_First.spec dCZI)]
def CFH : Prop := BB Try.prog CDA BRX (AL BRX) [] (AG []) (.bool true) [] [] []
abbrev BE : Prop := Int.ofNat (10 : Nat) = Int.ofNat (10 : Nat)
abbrev DY : Prop := Int.ofNat (12 : Nat) = Int.ofNat (12 : Nat)
abbrev DW : Prop := Int.ofNat (500 : Nat) = Int.ofNat (500 : Nat)
abbrev DX : Prop := Int.ofNat (5 : Nat) = Int.ofNat (5 : Nat)
abbrev CQ : Prop := (3 : Nat) = (3 : Nat)
abbrev z_awake_5 : Cht := YG (I2.mk (310 : Int) (320 : Int))
abbrev z_awake_6 : List Mk := z_awake_5.ms
abbrev Yf (i : Nat) : Mk := gD z_awake_6 i
abbrev AHN : List Mk := AE z_awake_6.length λ (i : Nat) => Yf i
abbrev ABV (i : Nat) : Mk := gD AHN i
abbrev GQ : Prop := ∀ (i : Nat), i < (3 : Nat) -> (ABV i).pl = (Yf i).pl /\ (ABV i).ht = (Yf i).ht
abbrev DD : Prop := (2 : Nat) = (2 : Nat)
abbrev z_awake_12 : List Nt := z_awake_5.ns
abbrev UM (i : Nat) : Nt := gD z_awake_12 i
abbrev kX : List Nt := AE z_awake_12.length λ (i : Nat) => UM i
abbrev Hh (i : Nat) : Nt := gD kX i
abbrev oE (i : Nat) : Span := (Hh i).t
abbrev sK (i : Nat) : Span := (UM i).t
abbrev rT (i : Nat) : Span := (Hh i).s
abbrev oJ (i : Nat) : Span := (UM i).s
abbrev GR : Prop := ∀ (i : Nat), i < (2 : Nat) -> (Hh i).mi = (UM i).mi /\ (oE i).lo = (sK i).lo /\ (oE i).hi = (sK i).hi /\ (rT i).lo = (oJ i).lo /\
 (rT i).hi = (oJ i).hi
abbrev NM : Prop := (3 : Nat) < (4611686018427387904 : Nat)
abbrev Fm : Prop := (2 : Nat) < (4611686018427387904 : Nat)
abbrev iD : Prop := NM /\ Fm
abbrev CS : Prop := (0 : Nat) = (0 : Nat)
abbrev HS : Prop := NM /\ Fm /\ (0 : Nat) < (4611686018427387904 : Nat)
abbrev lE : Prop := CS /\ CS /\ HS
abbrev z_awake_27 : Cht := YG (I2.mk (300 : Int) (300 : Int))
abbrev z_awake_28 : List Mk := z_awake_27.ms
abbrev Iv (i : Nat) : Mk := gD z_awake_28 i
abbrev pG (i : Nat) : Mk := gD (AE z_awake_28.length λ (i : Nat) => Iv i) i
abbrev z_awake_31 : List Nt := z_awake_27.ns
abbrev TR (i : Nat) : Nt := gD z_awake_31 i
abbrev Ij (i : Nat) : Nt := gD (AE z_awake_31.length λ (i : Nat) => TR i) i
abbrev rI (i : Nat) : Span := (Ij i).t
abbrev oO (i : Nat) : Span := (TR i).t
abbrev kI (i : Nat) : Span := (Ij i).s
abbrev gI (i : Nat) : Span := (TR i).s
abbrev oA : Cht := Cht.mk z_awake_5.p z_awake_5.base z_awake_5.scale z_awake_5.off AHN kX
abbrev z_awake_39 : List Span := (PV oA).fst
abbrev Ic (i : Nat) : Span := gD z_awake_39 i
abbrev pS (i : Nat) : Span := gD (AE z_awake_39.length λ (i : Nat) => Ic i) i
abbrev UG (i : Nat) : Bool := decide (i = (0 : Nat))
abbrev UK (i : Nat) : Bool := decide (i - (1 : Nat) = (0 : Nat))
abbrev iB (i : Nat) : Int := bif UG i then (695 : Int) else bif UK i then (995 : Int) else (795 : Int)
abbrev iV (i : Nat) : Int := bif UG i then (705 : Int) else bif UK i then (1005 : Int) else (805 : Int)
abbrev sS (i : Nat) : Span := gD (AE (3 : Nat) λ (i : Nat) => Span.mk (iB i) (iV i)) i
abbrev rV : Prop := NM /\ NM
abbrev z_awake_48 : List Span := (YU (CZ.mk oA (AE (0 : Nat) λ (i : Nat) => default))).fst
abbrev Fi (i : Nat) : Span := gD z_awake_48 i
abbrev lL (i : Nat) : Span := gD (AE z_awake_48.length λ (i : Nat) => Fi i) i
abbrev sN (i : Nat) : Int := bif UG i then (0 : Int) else bif UK i then (100 : Int) else (310 : Int)
abbrev lU (i : Nat) : Int := bif UG i then (0 : Int) else bif UK i then (120 : Int) else (320 : Int)
abbrev mO (i : Nat) : Span := gD (AE (3 : Nat) λ (i : Nat) => Span.mk (sN i) (lU i)) i
abbrev Fr : Prop := true = true -> (0 : Int) <= (1 : Int) /\ (1 : Int) < (↑(3 : Nat) : Int)
abbrev z_awake_55 : Cht := YG (I2.mk (400 : Int) (410 : Int))
abbrev z_awake_56 : List Mk := z_awake_55.ms
abbrev Ii (i : Nat) : Mk := gD z_awake_56 i
abbrev kK : List Mk := AE z_awake_56.length λ (i : Nat) => Ii i
abbrev mX (i : Nat) : Mk := gD kK i
abbrev UD : Prop := ∀ (i : Nat), i < (3 : Nat) -> (mX i).pl = (Ii i).pl /\ (mX i).ht = (Ii i).ht
abbrev z_awake_61 : List Nt := z_awake_55.ns
abbrev UE (i : Nat) : Nt := gD z_awake_61 i
abbrev rM : List Nt := AE z_awake_61.length λ (i : Nat) => UE i
abbrev Eu (i : Nat) : Nt := gD rM i
abbrev tF (i : Nat) : Span := (Eu i).t
abbrev pR (i : Nat) : Span := (UE i).t
abbrev tH (i : Nat) : Span := (Eu i).s
abbrev gU (i : Nat) : Span := (UE i).s
abbrev TS : Prop := ∀ (i : Nat), i < (2 : Nat) -> (Eu i).mi = (UE i).mi /\ (tF i).lo = (pR i).lo /\ (tF i).hi = (pR i).hi /\ (tH i).lo = (gU i).lo /\
 (tH i).hi = (gU i).hi
abbrev lY : Prop := Int.ofNat (0 : Nat) = Int.ofNat (0 : Nat)
abbrev gR : Prop := BE /\ DY /\ DW /\ BE /\ DX /\ CQ /\ UD /\ DD /\ TS /\ iD /\ (lY -> (2 : Nat) <= (12 : Nat))
abbrev NF : Prop := (1 : Nat) = (1 : Nat)
abbrev Et : Prop := (1 : Nat) <= (1 : Nat)
abbrev pO (j : Nat) : Pr := gD (AE (1 : Nat) λ (i : Nat) => dPr (fU [Sym.elemOf [ofV (Value.int IntKind.i64 (0 : Int)), ofV (Value.int IntKind.i64 (1 : Int))]] i)) j
abbrev oN : Prop := ∀ (j : Nat), j < (1 : Nat) -> (pO j).a = (0 : Int) /\ (pO j).b = (1 : Int)
abbrev Gy : Prop := (1 : Nat) < (4611686018427387904 : Nat)
abbrev Gv : Prop := NM /\ Fm /\ Gy
abbrev z_awake_78 : List Pr := (JE (Cht.mk z_awake_55.p z_awake_55.base z_awake_55.scale z_awake_55.off kK rM)).r
abbrev Dn (i : Nat) : Pr := gD z_awake_78 i
abbrev jT (i : Nat) : Pr := gD (AE z_awake_78.length λ (i : Nat) => Dn i) i
theorem COI : (CFH) = ((BE /\ DY /\ DW /\ BE /\ DX /\ CQ /\ GQ /\ DD /\ GR /\ iD) /\ (BE /\ DY /\ DW /\ BE /\ DX /\
 CQ /\ GQ /\ DD /\ GR /\ lE) /\ (BE /\ DY /\ DW /\ BE /\ DX /\ CQ /\ (∀ (i : Nat), i < (3 : Nat) -> (pG i).pl = (Iv i).pl /\ (pG
 i).ht = (Iv i).ht) /\ DD /\ (∀ (i : Nat), i < (2 : Nat) -> (Ij i).mi = (TR i).mi /\ (rI i).lo = (oO i).lo /\ (rI i).hi = (oO i).hi /\ (kI i).lo =
 (gI i).lo /\ (kI i).hi = (gI i).hi) /\ lE) /\ ((true = true -> CQ /\ (∀ (i : Nat), i < (3 : Nat) -> (pS i).lo = (Ic i).lo /\ (pS i).hi = (Ic i).hi) /\
 CQ /\ (∀ (i : Nat), i < (3 : Nat) -> (sS i).lo = iB i /\ (sS i).hi = iV i) /\ rV) /\ (true = true -> CQ /\ (∀ (i : Nat), i < (3 : Nat) -> (lL i).lo = (Fi
 i).lo /\ (lL i).hi = (Fi i).hi) /\ CQ /\ (∀ (i : Nat), i < (3 : Nat) -> (mO i).lo = sN i /\ (mO i).hi = lU i) /\ rV) /\ Fr) /\ gR /\ gR /\
 (BE /\ DY /\ DW /\ BE /\ DX /\ CQ /\ UD /\ DD /\ TS /\ Int.ofNat (1 : Nat) = Int.ofNat (1 : Nat) /\ NF /\ Et /\ oN /\ Gv) /\ (BE
 /\ DY /\ DW /\ BE /\ DX /\ CQ /\ UD /\ DD /\ TS /\ NF /\ Et /\ (∀ (j : Nat), j < (1 : Nat) -> gD (AE (1 : Nat) λ (i : Nat) => (0 : Int)) j = (0 : Int)) /\
 Gv) /\ (BE /\ DY /\ DW /\ BE /\ DX /\ CQ /\ UD /\ DD /\ TS /\ NF /\ Et /\ (∀ (j : Nat), j < (1 : Nat) -> gD (AE (1 : Nat) λ (i : Nat) => (1
 : Int)) j = (1 : Int)) /\ Gv) /\ ((true = true -> NF /\ (∀ (i : Nat), i < (1 : Nat) -> (jT i).a = (Dn i).a /\ (jT i).b = (Dn i).b) /\ NF /\ oN /\ Gy /\
 Gy) /\ Fr /\ Fr) /\ (BE /\ DY /\ DW /\ BE /\ DX /\ CQ /\ GQ /\ DD /\ GR /\ CS /\ CS /\ Int.ofNat (50 : Nat) = Int.ofNat (50 :
 Nat) /\ HS) /\ (BE /\ DY /\ DW /\ BE /\ DX /\ CQ /\ GQ /\ DD /\ GR /\ CS /\ CS /\ Int.ofNat (320 : Nat) = Int.ofNat (320 : Nat) /\ HS) /\
 (BE /\ DY /\ DW /\ BE /\ DX /\ CQ /\ GQ /\ DD /\ GR /\ CS /\ CS /\ Int.ofNat (321 : Nat) = Int.ofNat (321 : Nat) /\ HS) /\ (BE /\
 DY /\ DW /\ BE /\ DX /\ CQ /\ GQ /\ DD /\ GR /\ CS /\ CS /\ lY /\ Int.ofNat (110 : Nat) = Int.ofNat (110 : Nat) /\ HS) /\ (BE /\
 DY /\ DW /\ BE /\ DX /\ CQ /\ GQ /\ DD /\ GR /\ CS /\ CS /\ Int.ofNat (1000 : Nat) = Int.ofNat (1000 : Nat) /\ HS) /\ (BE /\ DY /\
 DW /\ BE /\ DX /\ CQ /\ GQ /\ DD /\ GR /\ CS /\ CS /\ Int.ofNat (995 : Nat) = Int.ofNat (995 : Nat) /\ HS) /\ true = true) := by kernel_rfl
def CDD : List AVal -> Option (AVal × List Prop)
 | [] => some (.bool true, [])
 | _ => none
def CEI : Sym.Spec := Ul CDD
theorem CRT : CFH := by
 rw [COI]; delta BE DY DW DX CQ z_awake_5 z_awake_6 Yf AHN ABV GQ DD z_awake_12 UM kX Hh oE sK rT oJ GR NM Fm iD CS HS lE z_awake_27 z_awake_28 Iv pG z_awake_31 TR Ij rI oO kI gI oA z_awake_39 Ic pS UG UK iB iV sS rV z_awake_48 Fi lL sN lU mO Fr z_awake_55 z_awake_56 Ii kK mX UD z_awake_61 UE rM Eu tF pR tH gU TS lY gR NF Et pO oN Gy Gv z_awake_78 Dn jT; simp only [CC, eq_self, implies_true, forall_const]
 decide +kernel
theorem CMF : AM Try.prog BTV CEI := Jg λ xs v p h _ => by
 unfold CDD at h; split at h
 ·cases h; exact UV (A := CDA) (ren := []) (fz := []) CLT (by kernel_rfl) (AC CXW (AC CNS (AC BXE (AC CFJ (AC CMK (AC CKE (AC CRL (AC CPH (AC BYG (AC CPB (AC CNE AJ))))))))))) CRT
 ·cases h
end Go.Bal
