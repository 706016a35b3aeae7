/- Package chart: Same, One. -/
import Derived.Test.YtdbjalgfomknhaaChL
set_option linter.unusedVariables false
set_option linter.unusedSimpArgs false
namespace Go.Bal
open Go Go.Sym Go.Proofs
structure SS2 where
 l : List Span
 m : List Span
def dSS2 : List AVal -> Heap -> Option (SS2 × List (Nat × Nat) × List Nat)
 | [x, y], H => match Bg x H, Bg y H with
  | some (l, f), some (m, e) => some (⟨l, m⟩, [], f ++ e)
  | _, _ => none
 | _, _ => none
def eqN (f : Nat -> Bool) : Nat -> Bool
 | 0 => true
 | k + 1 => eqN f k && f k
def eqS (x : SS2) (i : Nat) : Bool := (gD x.l i).lo == (gD x.m i).lo && (gD x.l i).hi == (gD x.m i).hi
def samS (x : SS2) : Bool := x.l.length == x.m.length && eqN (eqS x) x.l.length
def C_samS : Ctr := { α := SS2, xs := λ x => [.d (AV x.l), .d (AV x.m)], val := λ x => .bool (samS x), keep := λ _ => [], pre := λ x => [x.l.length < 4611686018427387904 /\ x.m.length < 4611686018427387904] }
def sa4 (x : SS2) : Shape := { α := Nat, dflt := 0, T := λ k => ⟨[(0, .d (AV x.l)), (1, .d (AV x.m)), (5, .int k)], []⟩, inv := λ k => k <= x.l.length /\ eqN (eqS x) k = true, meas := λ k => x.l.length - k }
def CYB (x : SS2) : Ann := { ann 26 [] with loops := λ id => if id = 4 then some [sa4 x] else none }
def DDT (x : SS2) : Prop := AZ Try.prog (CYB x) CHB (AN CHB) (C_samS.xs x) (AF []) (C_samS.val x) [] [] []
theorem DIE (x : SS2) : (DDT x) = (bif (↑x.l.length : Int) != (↑x.m.length : Int) then samS x = false else (∃ (a : Nat), (x.l.length = x.l.length /\ (∀ (i : Nat), i < x.l.length -> (gD x.l i).lo = (gD x.l i).lo /\
 (gD x.l i).hi = (gD x.l i).hi) /\ x.m.length = x.m.length /\ (∀ (i : Nat), i < x.m.length -> (gD x.m i).lo = (gD x.m i).lo /\ (gD x.m i).hi = (gD x.m i).hi) /\ (↑a : Int) = 0) /\ a <= x.l.length /\ eqN (eqS x) a = true) /\ ∀ (a :
 Nat), a <= x.l.length /\ eqN (eqS x) a = true -> bif decide ((↑a : Int) < (↑x.l.length : Int)) then ((0 <= (↑a : Int) /\ (↑a : Int) < (↑x.l.length : Int)) /\ 0 <= (↑a : Int) /\ (↑a : Int) < (↑x.m.length : Int)) /\ bif !((gD x.l
 a).lo == (gD x.m a).lo && ((gD x.l a).hi == (gD x.m a).hi && true)) then samS x = false else ∃ (a_2 : Nat), (x.l.length = x.l.length /\ (∀ (i : Nat), i < x.l.length -> (gD x.l i).lo = (gD x.l i).lo /\ (gD x.l i).hi = (gD
 x.l i).hi) /\ x.m.length = x.m.length /\ (∀ (i : Nat), i < x.m.length -> (gD x.m i).lo = (gD x.m i).lo /\ (gD x.m i).hi = (gD x.m i).hi) /\ (↑a_2 : Int) = IntKind.i64.wrap ((↑a : Int) + 1)) /\ (a_2 <= x.l.length /\ eqN (eqS x)
 a_2 = true) /\ x.l.length - a_2 < x.l.length - a else samS x = true) := by kernel_rfl
theorem CGQ {f : Nat -> Bool} : ∀ {n k : Nat}, k < n -> f k = false -> eqN f n = false
 | 0, k, h, _ => absurd h (Nat.not_lt_zero _)
 | n + 1, k, h, hg => by
  show (eqN f n && f n) = false
  by_cases e : k = n
  ·subst e; rw [hg, Bool.and_false]
  ·rw [CGQ (show k < n by omega) hg]; rfl
theorem CTG {f : Nat -> Bool} {k : Nat} (h : eqN f k = true) (h2 : f k = true) : eqN f (k + 1) = true := by
 show (eqN f k && f k) = true
 rw [h, h2]; rfl
theorem DPQ (x : SS2) (h : x.l.length < 4611686018427387904 /\ x.m.length < 4611686018427387904) : DDT x := by
 rw [DIE]; simp only [CC, eq_self, implies_true, forall_const]
 refine ⟨λ hn => ?_, λ hn => ⟨⟨0, rfl, Nat.zero_le _, rfl⟩, ?_⟩⟩
 ·unfold samS
  have : (x.l.length == x.m.length) = false := by simp at hn ⊢; omega
  rw [this]; rfl
 ·have hl : (x.l.length == x.m.length) = true := by simp at hn ⊢; omega
  have hl2 : x.l.length = x.m.length := by simpa using hl
  rintro k ⟨hk, he⟩
  refine ⟨λ hlt => ⟨⟨⟨by omega, by omega⟩, by omega, by omega⟩, λ hc => ?_, λ hc => ⟨k + 1, by rw [EM (by omega) (by omega)]; rfl, ⟨by omega, CTG he ?_⟩, by omega⟩⟩, λ hge => ?_⟩
  ·unfold samS
   rw [CGQ (f := eqS x) (show k < x.l.length by omega) (by rw [Bool.and_true] at hc; exact hc), Bool.and_false]
  ·rw [Bool.and_true] at hc; exact hc
  ·obtain rfl : k = x.l.length := by omega
   unfold samS; rw [hl, he]; rfl
theorem DHW : AP Try.prog CER (C_samS.spec dSS2) := MC C_samS CYB [] [] CYI (λ _ => by kernel_rfl) (λ _ => AK) (λ (x : SS2) h => DPQ x h) (λ _ => MO rfl rfl) _
structure PP2 where
 l : List Pr
 m : List Pr
def dPP2 : List AVal -> Heap -> Option (PP2 × List (Nat × Nat) × List Nat)
 | [x, y], H => match dPrs x H, dPrs y H with
  | some (l, f), some (m, e) => some (⟨l, m⟩, [], f ++ e)
  | _, _ => none
 | _, _ => none
def eqP (x : PP2) (i : Nat) : Bool := (gD x.l i).a == (gD x.m i).a && (gD x.l i).b == (gD x.m i).b
def samP (x : PP2) : Bool := x.l.length == x.m.length && eqN (eqP x) x.l.length
def C_samP : Ctr := { α := PP2, xs := λ x => [.d (Ga x.l), .d (Ga x.m)], val := λ x => .bool (samP x), keep := λ _ => [], pre := λ x => [x.l.length < 4611686018427387904 /\ x.m.length < 4611686018427387904] }
def sq4 (x : PP2) : Shape := { α := Nat, dflt := 0, T := λ k => ⟨[(0, .d (Ga x.l)), (1, .d (Ga x.m)), (5, .int k)], []⟩, inv := λ k => k <= x.l.length /\ eqN (eqP x) k = true, meas := λ k => x.l.length - k }
def DFC (x : PP2) : Ann := { ann 26 [] with loops := λ id => if id = 4 then some [sq4 x] else none }
def DAM (x : PP2) : Prop := AZ Try.prog (DFC x) CFL (AN CFL) (C_samP.xs x) (AF []) (C_samP.val x) [] [] []
theorem DHN (x : PP2) : (DAM x) = (bif (↑x.l.length : Int) != (↑x.m.length : Int) then samP x = false else (∃ (a : Nat), (x.l.length = x.l.length /\ (∀ (i : Nat), i < x.l.length -> (gD x.l i).a = (gD x.l i).a /\ (gD
 x.l i).b = (gD x.l i).b) /\ x.m.length = x.m.length /\ (∀ (i : Nat), i < x.m.length -> (gD x.m i).a = (gD x.m i).a /\ (gD x.m i).b = (gD x.m i).b) /\ (↑a : Int) = 0) /\ a <= x.l.length /\ eqN (eqP x) a = true) /\ ∀ (a : Nat), a <=
 x.l.length /\ eqN (eqP x) a = true -> bif decide ((↑a : Int) < (↑x.l.length : Int)) then ((0 <= (↑a : Int) /\ (↑a : Int) < (↑x.l.length : Int)) /\ 0 <= (↑a : Int) /\ (↑a : Int) < (↑x.m.length : Int)) /\ bif !((gD x.l a).a == (gD
 x.m a).a && ((gD x.l a).b == (gD x.m a).b && true)) then samP x = false else ∃ (a_2 : Nat), (x.l.length = x.l.length /\ (∀ (i : Nat), i < x.l.length -> (gD x.l i).a = (gD x.l i).a /\ (gD x.l i).b = (gD x.l i).b) /\
 x.m.length = x.m.length /\ (∀ (i : Nat), i < x.m.length -> (gD x.m i).a = (gD x.m i).a /\ (gD x.m i).b = (gD x.m i).b) /\ (↑a_2 : Int) = IntKind.i64.wrap ((↑a : Int) + 1)) /\ (a_2 <= x.l.length /\ eqN (eqP x) a_2 = true) /\
 x.l.length - a_2 < x.l.length - a else samP x = true) := by kernel_rfl
theorem DOP (x : PP2) (h : x.l.length < 4611686018427387904 /\ x.m.length < 4611686018427387904) : DAM x := by
 rw [DHN]; simp only [CC, eq_self, implies_true, forall_const]
 refine ⟨λ hn => ?_, λ hn => ⟨⟨0, rfl, Nat.zero_le _, rfl⟩, ?_⟩⟩
 ·unfold samP
  have : (x.l.length == x.m.length) = false := by simp at hn ⊢; omega
  rw [this]; rfl
 ·have hl : (x.l.length == x.m.length) = true := by simp at hn ⊢; omega
  have hl2 : x.l.length = x.m.length := by simpa using hl
  rintro k ⟨hk, he⟩
  refine ⟨λ hlt => ⟨⟨⟨by omega, by omega⟩, by omega, by omega⟩, λ hc => ?_, λ hc => ⟨k + 1, by rw [EM (by omega) (by omega)]; rfl, ⟨by omega, CTG he ?_⟩, by omega⟩⟩, λ hge => ?_⟩
  ·unfold samP
   rw [CGQ (f := eqP x) (show k < x.l.length by omega) (by rw [Bool.and_true] at hc; exact hc), Bool.and_false]
  ·rw [Bool.and_true] at hc; exact hc
  ·obtain rfl : k = x.l.length := by omega
   unfold samP; rw [hl, he]; rfl
theorem DGB : AP Try.prog CLC (C_samP.spec dPP2) := MC C_samP DFC [] [] DCI (λ _ => by kernel_rfl) (λ _ => AK) (λ (x : PP2) h => DOP x h) (λ _ => MO rfl rfl) _
def Bj (x : I2) : Cht := ⟨⟨10, 12⟩, 500, 10, 5, [⟨0, 20⟩, ⟨10, 50⟩, ⟨30, 30⟩], [⟨0, ⟨0, 0⟩, ⟨0, 2000⟩⟩, ⟨2, ⟨x.a, x.b⟩, ⟨0, 2000⟩⟩]⟩
def DLN (x : I2) : Prop := AZ Try.prog (ann 21 []) CXW (AN CXW) (xI2 x) (AF []) (.d (VZ (Bj x))) [] [] [3064, 3192]
theorem DPN (x : I2) : (DLN x) = ((Bj x).p.lo = 10 /\ (Bj x).p.hi = 12 /\ (Bj x).base = 500 /\ (Bj x).scale = 10 /\ (Bj x).off = 5 /\ (Bj x).ms.length = 3 /\ 3 <= 3 /\ (∀ (j : Nat), j < (Bj x).ms.length -> ((gD
 (Bj x).ms j).pl = bif decide (0 + j = 0) then 0 else bif decide (0 + j - 1 = 0) then 10 else 30) /\ (gD (Bj x).ms j).ht = bif decide (0 + j = 0) then 20 else bif decide (0 + j - 1 = 0) then 50 else 30) /\ (Bj
 x).ns.length = 2 /\ 2 <= 2 /\ ∀ (j : Nat), j < (Bj x).ns.length -> ((gD (Bj x).ns j).mi = bif decide (0 + j = 0) then 0 else 2) /\ ((gD (Bj x).ns j).t.lo = bif decide (0 + j = 0) then 0 else x.a) /\ ((gD (Bj x).ns
 j).t.hi = bif decide (0 + j = 0) then 0 else x.b) /\ ((gD (Bj x).ns j).s.lo = bif decide (0 + j = 0) then 0 else 0) /\ (gD (Bj x).ns j).s.hi = bif decide (0 + j = 0) then 2000 else 2000) := by kernel_rfl
def DJQ := pD dI2 λ x => .d (VZ (Bj x))
theorem DND : AP Try.prog DAA DJQ := Ba xI2 hI2 λ g _ => TV (A := ann 21 []) (ren := []) (fz := [3064, 3192]) DNE (by kernel_rfl) AK (by
 show DLN g; rw [DPN]; simp only [CC, eq_self, implies_true, forall_const]
 refine ⟨rfl, rfl, rfl, rfl, rfl, rfl, by decide, λ j hj => ?_, rfl, by decide, λ j hj => ?_⟩
 ·have hj : j < 3 := hj
  rcases j with _ | _ | _ | j
  ·exact ⟨rfl, rfl⟩
  ·exact ⟨rfl, rfl⟩
  ·exact ⟨rfl, rfl⟩
  ·omega
 ·have hj : j < 2 := hj
  rcases j with _ | _ | j
  ·exact ⟨rfl, rfl, rfl, rfl, rfl⟩
  ·exact ⟨rfl, rfl, rfl, rfl, rfl⟩
  ·omega)
def CTL : Ann := ann 249 [(DAA, DJQ), (BSC, C_Stages.spec dC1), (BHF, C_Times.spec dCZ), (CER, C_samS.spec dSS2), (BHQ, C_Stops.spec dC1), (CDM, C_Pairs.spec dC1), (BZV, C_prov.spec dPrv), (CLC, C_samP.spec dPP2), (BJC, C_Stage.spec dCZI), (CSM, C_Peak.spec dCZ2), (CKG, C_First.spec dCZI)]
def CUC : Prop := AZ Try.prog CTL CHS (AN CHS) [] (AF []) (.bool true) [] [] []
abbrev BC : Prop := Int.ofNat (10 : Nat) = Int.ofNat (10 : Nat)
abbrev DW : Prop := Int.ofNat (12 : Nat) = Int.ofNat (12 : Nat)
abbrev DV : Prop := Int.ofNat (500 : Nat) = Int.ofNat (500 : Nat)
abbrev DU : Prop := Int.ofNat (5 : Nat) = Int.ofNat (5 : Nat)
abbrev CL : Prop := (3 : Nat) = (3 : Nat)
abbrev z_awake_5 : Cht := Bj (I2.mk (310 : Int) (320 : Int))
abbrev z_awake_6 : List Mk := z_awake_5.ms
abbrev gE (i : Nat) : Mk := gD z_awake_6 i
abbrev BBA : List Mk := AE z_awake_6.length λ (i : Nat) => gE i
abbrev BDL (i : Nat) : Mk := gD BBA i
abbrev HA : Prop := ∀ (i : Nat), i < (3 : Nat) -> (BDL i).pl = (gE i).pl /\ (BDL i).ht = (gE i).ht
abbrev CX : Prop := (2 : Nat) = (2 : Nat)
abbrev z_awake_12 : List Nt := z_awake_5.ns
abbrev VA (i : Nat) : Nt := gD z_awake_12 i
abbrev tJ : List Nt := AE z_awake_12.length λ (i : Nat) => VA i
abbrev Kn (i : Nat) : Nt := gD tJ i
abbrev J4 (i : Nat) : Span := (Kn i).t
abbrev B5 (i : Nat) : Span := (VA i).t
abbrev sO (i : Nat) : Span := (Kn i).s
abbrev sT (i : Nat) : Span := (VA i).s
abbrev HB : Prop := ∀ (i : Nat), i < (2 : Nat) -> (Kn i).mi = (VA i).mi /\ (J4 i).lo = (B5 i).lo /\ (J4 i).hi = (B5 i).hi /\ (sO i).lo = (sT i).lo /\
 (sO i).hi = (sT i).hi
abbrev OM : Prop := (3 : Nat) < (4611686018427387904 : Nat)
abbrev Iv : Prop := (2 : Nat) < (4611686018427387904 : Nat)
abbrev yC : Prop := OM /\ Iv
abbrev CM : Prop := (0 : Nat) = (0 : Nat)
abbrev JO : Prop := OM /\ Iv /\ (0 : Nat) < (4611686018427387904 : Nat)
abbrev F0 : Prop := CM /\ CM /\ JO
abbrev z_awake_27 : Cht := Bj (I2.mk (300 : Int) (300 : Int))
abbrev z_awake_28 : List Mk := z_awake_27.ms
abbrev Hp (i : Nat) : Mk := gD z_awake_28 i
abbrev zP (i : Nat) : Mk := gD (AE z_awake_28.length λ (i : Nat) => Hp i) i
abbrev z_awake_31 : List Nt := z_awake_27.ns
abbrev WT (i : Nat) : Nt := gD z_awake_31 i
abbrev Kq (i : Nat) : Nt := gD (AE z_awake_31.length λ (i : Nat) => WT i) i
abbrev yU (i : Nat) : Span := (Kq i).t
abbrev wE (i : Nat) : Span := (WT i).t
abbrev G5 (i : Nat) : Span := (Kq i).s
abbrev sJ (i : Nat) : Span := (WT i).s
abbrev C7 : Cht := Cht.mk z_awake_5.p z_awake_5.base z_awake_5.scale z_awake_5.off BBA tJ
abbrev z_awake_39 : List Span := (RP C7).fst
abbrev Mm (i : Nat) : Span := gD z_awake_39 i
abbrev B7 (i : Nat) : Span := gD (AE z_awake_39.length λ (i : Nat) => Mm i) i
abbrev US (i : Nat) : Bool := decide (i = (0 : Nat))
abbrev UX (i : Nat) : Bool := decide (i - (1 : Nat) = (0 : Nat))
abbrev sG (i : Nat) : Int := bif US i then (695 : Int) else bif UX i then (995 : Int) else (795 : Int)
abbrev vE (i : Nat) : Int := bif US i then (705 : Int) else bif UX i then (1005 : Int) else (805 : Int)
abbrev I4 (i : Nat) : Span := gD (AE (3 : Nat) λ (i : Nat) => Span.mk (sG i) (vE i)) i
abbrev yY : Prop := OM /\ OM
abbrev z_awake_48 : List Span := (NT (CZ.mk C7 (AE (0 : Nat) λ (i : Nat) => default))).fst
abbrev Kb (i : Nat) : Span := gD z_awake_48 i
abbrev vV (i : Nat) : Span := gD (AE z_awake_48.length λ (i : Nat) => Kb i) i
abbrev yH (i : Nat) : Int := bif US i then (0 : Int) else bif UX i then (100 : Int) else (310 : Int)
abbrev uC (i : Nat) : Int := bif US i then (0 : Int) else bif UX i then (120 : Int) else (320 : Int)
abbrev E8 (i : Nat) : Span := gD (AE (3 : Nat) λ (i : Nat) => Span.mk (yH i) (uC i)) i
abbrev Kz : Prop := true = true -> (0 : Int) <= (1 : Int) /\ (1 : Int) < (↑(3 : Nat) : Int)
abbrev z_awake_55 : Cht := Bj (I2.mk (400 : Int) (410 : Int))
abbrev z_awake_56 : List Mk := z_awake_55.ms
abbrev Hc (i : Nat) : Mk := gD z_awake_56 i
abbrev uI : List Mk := AE z_awake_56.length λ (i : Nat) => Hc i
abbrev tI (i : Nat) : Mk := gD uI i
abbrev VH : Prop := ∀ (i : Nat), i < (3 : Nat) -> (tI i).pl = (Hc i).pl /\ (tI i).ht = (Hc i).ht
abbrev z_awake_61 : List Nt := z_awake_55.ns
abbrev UY (i : Nat) : Nt := gD z_awake_61 i
abbrev zR : List Nt := AE z_awake_61.length λ (i : Nat) => UY i
abbrev Hz (i : Nat) : Nt := gD zR i
abbrev xP (i : Nat) : Span := (Hz i).t
abbrev wJ (i : Nat) : Span := (UY i).t
abbrev wF (i : Nat) : Span := (Hz i).s
abbrev tB (i : Nat) : Span := (UY i).s
abbrev WL : Prop := ∀ (i : Nat), i < (2 : Nat) -> (Hz i).mi = (UY i).mi /\ (xP i).lo = (wJ i).lo /\ (xP i).hi = (wJ i).hi /\ (wF i).lo = (tB i).lo /\
 (wF i).hi = (tB i).hi
abbrev sM : Prop := Int.ofNat (0 : Nat) = Int.ofNat (0 : Nat)
abbrev tL : Prop := BC /\ DW /\ DV /\ BC /\ DU /\ CL /\ VH /\ CX /\ WL /\ yC /\ (sM -> (2 : Nat) <= (12 : Nat))
abbrev OP : Prop := (1 : Nat) = (1 : Nat)
abbrev Hj : Prop := (1 : Nat) <= (1 : Nat)
abbrev uY (j : Nat) : Pr := gD (AE (1 : Nat) λ (i : Nat) => dPr (rS [Sym.elemOf [ofV (Value.int IntKind.i64 (0 : Int)), ofV (Value.int IntKind.i64 (1 : Int))]] i)) j
abbrev yJ : Prop := ∀ (j : Nat), j < (1 : Nat) -> (uY j).a = (0 : Int) /\ (uY j).b = (1 : Int)
abbrev Lx : Prop := (1 : Nat) < (4611686018427387904 : Nat)
abbrev Hh : Prop := OM /\ Iv /\ Lx
abbrev z_awake_78 : List Pr := (CJ (Cht.mk z_awake_55.p z_awake_55.base z_awake_55.scale z_awake_55.off uI zR)).r
abbrev Im (i : Nat) : Pr := gD z_awake_78 i
abbrev zB (i : Nat) : Pr := gD (AE z_awake_78.length λ (i : Nat) => Im i) i
theorem DFL : (CUC) = ((BC /\ DW /\ DV /\ BC /\ DU /\ CL /\ HA /\ CX /\ HB /\ yC) /\ (BC /\ DW /\ DV /\ BC /\ DU /\
 CL /\ HA /\ CX /\ HB /\ F0) /\ (BC /\ DW /\ DV /\ BC /\ DU /\ CL /\ (∀ (i : Nat), i < (3 : Nat) -> (zP i).pl = (Hp i).pl /\ (zP
 i).ht = (Hp i).ht) /\ CX /\ (∀ (i : Nat), i < (2 : Nat) -> (Kq i).mi = (WT i).mi /\ (yU i).lo = (wE i).lo /\ (yU i).hi = (wE i).hi /\ (G5 i).lo =
 (sJ i).lo /\ (G5 i).hi = (sJ i).hi) /\ F0) /\ ((true = true -> CL /\ (∀ (i : Nat), i < (3 : Nat) -> (B7 i).lo = (Mm i).lo /\ (B7 i).hi = (Mm i).hi) /\
 CL /\ (∀ (i : Nat), i < (3 : Nat) -> (I4 i).lo = sG i /\ (I4 i).hi = vE i) /\ yY) /\ (true = true -> CL /\ (∀ (i : Nat), i < (3 : Nat) -> (vV i).lo = (Kb
 i).lo /\ (vV i).hi = (Kb i).hi) /\ CL /\ (∀ (i : Nat), i < (3 : Nat) -> (E8 i).lo = yH i /\ (E8 i).hi = uC i) /\ yY) /\ Kz) /\ tL /\ tL /\
 (BC /\ DW /\ DV /\ BC /\ DU /\ CL /\ VH /\ CX /\ WL /\ Int.ofNat (1 : Nat) = Int.ofNat (1 : Nat) /\ OP /\ Hj /\ yJ /\ Hh) /\ (BC
 /\ DW /\ DV /\ BC /\ DU /\ CL /\ VH /\ CX /\ WL /\ OP /\ Hj /\ (∀ (j : Nat), j < (1 : Nat) -> gD (AE (1 : Nat) λ (i : Nat) => (0 : Int)) j = (0 : Int)) /\
 Hh) /\ (BC /\ DW /\ DV /\ BC /\ DU /\ CL /\ VH /\ CX /\ WL /\ OP /\ Hj /\ (∀ (j : Nat), j < (1 : Nat) -> gD (AE (1 : Nat) λ (i : Nat) => (1
 : Int)) j = (1 : Int)) /\ Hh) /\ ((true = true -> OP /\ (∀ (i : Nat), i < (1 : Nat) -> (zB i).a = (Im i).a /\ (zB i).b = (Im i).b) /\ OP /\ yJ /\ Lx /\
 Lx) /\ Kz /\ Kz) /\ (BC /\ DW /\ DV /\ BC /\ DU /\ CL /\ HA /\ CX /\ HB /\ CM /\ CM /\ Int.ofNat (50 : Nat) = Int.ofNat (50 :
 Nat) /\ JO) /\ (BC /\ DW /\ DV /\ BC /\ DU /\ CL /\ HA /\ CX /\ HB /\ CM /\ CM /\ Int.ofNat (320 : Nat) = Int.ofNat (320 : Nat) /\ JO) /\
 (BC /\ DW /\ DV /\ BC /\ DU /\ CL /\ HA /\ CX /\ HB /\ CM /\ CM /\ Int.ofNat (321 : Nat) = Int.ofNat (321 : Nat) /\ JO) /\ (BC /\
 DW /\ DV /\ BC /\ DU /\ CL /\ HA /\ CX /\ HB /\ CM /\ CM /\ sM /\ Int.ofNat (110 : Nat) = Int.ofNat (110 : Nat) /\ JO) /\ (BC /\
 DW /\ DV /\ BC /\ DU /\ CL /\ HA /\ CX /\ HB /\ CM /\ CM /\ Int.ofNat (1000 : Nat) = Int.ofNat (1000 : Nat) /\ JO) /\ (BC /\ DW /\
 DV /\ BC /\ DU /\ CL /\ HA /\ CX /\ HB /\ CM /\ CM /\ Int.ofNat (995 : Nat) = Int.ofNat (995 : Nat) /\ JO) /\ true = true) := by kernel_rfl
def CUX : List AVal -> Option (AVal × List Prop)
 | [] => some (.bool true, [])
 | _ => none
def CTV : Sym.Spec := Ug CUX
theorem DGA : CUC := by
 rw [DFL]; delta BC DW DV DU CL z_awake_5 z_awake_6 gE BBA BDL HA CX z_awake_12 VA tJ Kn J4 B5 sO sT HB OM Iv yC CM JO F0 z_awake_27 z_awake_28 Hp zP z_awake_31 WT Kq yU wE G5 sJ C7 z_awake_39 Mm B7 US UX sG vE I4 yY z_awake_48 Kb vV yH uC E8 Kz z_awake_55 z_awake_56 Hc uI tI VH z_awake_61 UY zR Hz xP wJ wF tB WL sM tL OP Hj uY yJ Lx Hh z_awake_78 Im zB; simp only [CC, eq_self, implies_true, forall_const]
 decide +kernel
theorem CNC : AP Try.prog CFQ CTV := Xz λ xs v p h _ => by
 unfold CUX at h; split at h
 ·cases h; exact TV (A := CTL) (ren := []) (fz := []) DBD (by kernel_rfl) (AD DND (AD DEJ (AD BNJ (AD DHW (AD BQK (AD CYM (AD DGY (AD DGB (AD BLR (AD DGT (AD DAY AK))))))))))) DGA
 ·cases h
end Go.Bal
