/- Package chart: times that notes allow. -/
import Derived.Test.YtdbjalgfomknhaaChC
set_option linter.unusedVariables false
set_option linter.unusedSimpArgs false
namespace Go.Bal
open Go Go.Sym Go.Proofs
def dU2 : List AVal -> Option I2
 | [.d (.v (.int .u64 a)), .d (.v (.int .u64 b))] => some ⟨a, b⟩
 | _ => none
def xU2 (x : I2) : List AVal := [.d (.v (.int .u64 x.a)), .d (.v (.int .u64 x.b))]
def AXB (x : I2) : Prop := CR Try.prog (ann 51 []) ADT (AL ADT) (xU2 x) (AE []) (.tup [.d (.v (.int .u64 0)), .d (.v (.int .u64 x.b))]) [] [] []
abbrev Ep:=I2.a
abbrev AJZ:=@HPow.hPow Int Nat Int (@instHPow Int Nat (@instPowNat Int Int.instNatPow))
abbrev ZQ:=I2.b
abbrev YF a:=PS IntKind.u64 a
abbrev fD a b:=YF (xI a b)
abbrev Xh a b:=(@HDiv.hDiv Int Int Int (@instHDiv Int Int.instDiv)) a (AJZ 2 b)
abbrev T1 a b:=Xh a (HX b)
abbrev Bm a:=T1 a 32
abbrev Xl a:=andI IntKind.u64 a 4294967295
abbrev Yj a b:=HU a (CG b)
abbrev Ov a:=Yj a 64
attribute [go_sem] Ep AJZ ZQ YF fD Xh T1 Bm Xl Yj Ov
theorem BGV (x : I2) : (AXB x) = (ZT (Eg 32 (Ov 32)) (APS (Eg 32 (Ov 32)) (AS 0 (YF (UC (YF (UC (fD (Bm (Ep x)) (Bm (ZQ x))) (Bm (YF (UC (fD (Bm (Ep x)) (Xl (ZQ x))) (Bm (fD (Xl (Ep x)) (Xl (ZQ x))))))))) (Bm (YF (UC (Xl (YF (UC (fD (Bm (Ep x)) (Xl (ZQ x))) (Bm (fD (Xl (Ep x)) (Xl (ZQ x))))))) (fD (Xl (Ep x)) (Bm (ZQ x))))))))) (AS (ZQ x) (fD (Ep x) (ZQ x))))) := by kernel_rfl
def J0 := pD dU2 (λ x => .tup [.d (.v (.int .u64 0)), .d (.v (.int .u64 x.b))]) (λ x => [x.a = 1 /\ 0 <= x.b /\ x.b <= 40])
def BOC (x : I2) : Prop := CR Try.prog (ann 30 [(F6, J0)]) AST (AL AST) (xU2 x) (AE []) (.tup [.d (.v (.int .u64 0)), .d (.v (.int .u64 x.b))]) [] [] []
abbrev Jb a:=AS a 1
attribute [go_sem] Jb
theorem BQR (x : I2) : (BOC x) = (AH (QR (Jb (Ep x)) (ZQ x) (HU (ZQ x) 40)) CU (AJ (ZQ x))) := by kernel_rfl
theorem hU2 (xs : List AVal) (a : I2) (h : dU2 xs = some a) : xs = xU2 a := by
 unfold dU2 at h; split at h <;> cases h; rfl
theorem u64w {n : Int} (h0 : 0 <= n) (h1 : n < 18446744073709551616) : IntKind.u64.wrap n = n := by
 simp only [IntKind.wrap, IntKind.bits, IntKind.signed]
 have : n % (2 ^ 64 : Int) = n := Int.emod_eq_of_lt h0 (by omega)
 simp only [this]
 simp
theorem BGA : AR Try.prog F6 J0 := Lu xU2 hU2 λ x h => Ky (A := ann 51 []) (ren := []) (fz := []) BAF (by kernel_rfl) AI (by
 show AXB x; rw [BGV]<;> delta PS AS CG HU UC HX xI Ep AJZ ZQ AH AK WY ZT APS CX Xh YF T1 Yj Bm Ov Eg fD Xl
 obtain ⟨a, b⟩ := x
 obtain ⟨h1, h2, h3⟩ : a = 1 /\ 0 <= b /\ b <= 40 := h
 subst h1
 obtain ⟨n, rfl⟩ := Int.eq_ofNat_of_zero_le h2
 have hn : n < 41 := by omega
 clear h2 h3
 revert hn; revert n; decide +kernel)
theorem BTD : AR Try.prog ATS J0 := Lu xU2 hU2 λ x h => Ky (A := ann 30 [(F6, J0)]) (ren := []) (fz := []) BML (by kernel_rfl) (AC BGA AI) (by
 show BOC x; rw [BQR]<;> delta AS UB HU Ep ZQ AH AJ CX OD CU QR Jb; exact ⟨h, rfl, rfl⟩)
def sng (s : Span) : List Span := [s]
def zSp : Span := ⟨0, 0⟩
structure SpN where
 s : Span
 n : Nat
def C_rep : Ctr := { α := SpN, xs := λ a => [.d (CK (sng a.s)), .int a.n], val := λ a => .own 0 2 0 a.n, keep := λ a => [(0, .live (.row 2 a.n λ _ => IY a.s))], pre := λ a => [1 <= a.n /\ a.n <= 40] }
def BNA : List AVal -> Heap -> Option (SpN × List (Nat × Nat) × List Nat)
 | [y, .d n], H => match Wx y H with
  | some (l, f) => some (⟨gD l 0, (FQ n).toNat⟩, [], f)
  | none => none
 | _, _ => none
def rp8 (a : SpN) : Shape := { α := Nat, dflt := 0, T := λ k => ⟨[(7, .own 201 2 0 a.n), (8, .int k)], [(201, .live (.row 2 a.n λ i => IY (bif decide (i < k) then a.s else zSp)))]⟩, inv := λ k => 1 <= k /\ k <= a.n, meas := λ k => a.n - k, first := [(201, 7032)] }
def BPR (a : SpN) : Ann := { ann 48 [(ATS, J0)] with loops := λ id => if id = 8 then some [rp8 a] else none }
def BNI (a : SpN) : Prop := CR Try.prog (BPR a) AUG (AL AUG) (C_rep.xs a) (AE []) (C_rep.val a) (C_rep.keep a) [(0, 201)] []
abbrev AKN : Prop := (2 : Nat) = (2 : Nat)
abbrev K3 (a : SpN) : Nat := (IntKind.i64.wrap (IntKind.u64.wrap (↑a.n : Int))).toNat
abbrev ACW : Prop := (0 : Nat) = (0 : Nat)
abbrev AOB (a : SpN) : Prop := a.n = K3 a
abbrev AMW (a : SpN) : Nat := min (sng a.s).length (K3 a)
abbrev AMC (i : Nat) (a : Nat) (a1 : SpN) : Span := bif decide (i < a) then a1.s else zSp
abbrev J4 (i : Nat) (a : Nat) (a1 : SpN) : Int := (AMC i a a1).lo
abbrev ALA (i : Nat) (a : SpN) : Bool := decide (i < AMW a)
abbrev J6 (i : Nat) (a : Nat) (a1 : SpN) : Int := (AMC i a a1).hi
abbrev ADP (a : Nat) (a1 : SpN) : Prop := (1 : Nat) <= a /\ a <= a1.n
abbrev AHN (a : Nat) (a1 : SpN) : Prop := (↑a : Int) < (↑a1.n : Int)
abbrev AHA (a : Nat) : Prop := (0 : Int) <= (↑a : Int)
abbrev AHY (a : Nat) (a1 : SpN) : Prop := (↑a : Int) <= (↑a1.n : Int)
abbrev AEQ (a : Nat) : Nat := a - (0 : Nat)
abbrev rQ (a : Nat) : Nat := (0 : Nat) + a
abbrev iU (a : SpN) (a1 : Nat) : Nat := a.n - a1
abbrev ADU (a : Nat) (a1 : SpN) : Nat := min (a - Int.toNat (0 : Int)) (iU a1 a)
abbrev AEX (a : Nat) (i : Nat) (a1 : SpN) : Bool := decide (rQ a <= i) && decide (i < rQ a + ADU a a1)
abbrev AGL (i : Nat) (a : Nat) (a1 : SpN) : Span := bif decide ((0 : Nat) + Int.toNat (0 : Int) + (i - rQ a) < a) then a1.s else zSp
theorem BRO (a : SpN) : (BNI a) = ((IntKind.u64.wrap (↑(sng a.s).length : Int) = (1 : Int) /\ (0 : Int) <= IntKind.u64.wrap (↑a.n : Int) /\ IntKind.u64.wrap (↑a.n : Int) <= (40 : Int)) /\ bif bif decide ((0 : Int) > (0 :
 Int)) then true else decide (IntKind.u64.wrap (↑a.n : Int) > (9223372036854775807 : Int)) then False else ((0 : Int) <= IntKind.i64.wrap (IntKind.u64.wrap (↑a.n : Int)) /\ IntKind.i64.wrap (IntKind.u64.wrap (↑a.n : Int)) =
 IntKind.i64.wrap (IntKind.u64.wrap (↑a.n : Int)) /\ IntKind.i64.wrap (IntKind.u64.wrap (↑a.n : Int)) <= (9223372036854775807 : Int) /\ (↑(16 : Nat) : Int) * IntKind.i64.wrap (IntKind.u64.wrap (↑a.n : Int)) <=
 (281474976710656 : Int)) /\ ((True /\ ((0 : Nat) < (sng a.s).length -> AKN)) /\ (K3 a).le (K3 a)) /\ (∃ (a_1 : Nat), (ACW /\ AOB a /\ (↑a_1 : Int) = (↑(AMW a) : Int) /\ AOB a /\ ∀ (i : Nat), i < a.n
 -> (J4 i a_1 a = bif ALA i a then (gD (sng a.s) i).lo else (0 : Int)) /\ J6 i a_1 a = bif ALA i a then (gD (sng a.s) i).hi else (0 : Int)) /\ ADP a_1 a) /\ ∀ (a_1 : Nat), ADP a_1 a -> bif decide
 (AHN a_1 a) then ((AHA a_1 /\ AHY a_1 a /\ (↑a.n : Int) <= (↑a.n : Int) /\ ((↑a_1 : Int) = (0 : Int) ∨ AHN a_1 a)) /\ ((0 : Int) <= (0 : Int) /\ AHA a_1 /\ AHY a_1 a /\ ((0 : Int) = (0 : Int) ∨ (0 :
 Int) < (↑a_1 : Int))) /\ ((0 : Nat) + AEQ a_1 <= a.n /\ ((0 : Nat) < AEQ a_1 -> AKN)) /\ (rQ a_1 + iU a a_1).le a.n) /\ ∃ (a_3 : Nat), (ACW /\ a.n = a.n /\ (↑a_3 : Int) = IntKind.i64.wrap ((↑a_1 :
 Int) + (↑(ADU a_1 a) : Int)) /\ a.n = a.n /\ ∀ (i : Nat), i < a.n -> (J4 i a_3 a = bif AEX a_1 i a then (AGL i a_1 a).lo else J4 i a_1 a) /\ J6 i a_3 a = bif AEX a_1 i a then (AGL i
 a_1 a).hi else J6 i a_1 a) /\ ADP a_3 a /\ iU a a_3 < iU a a_1 else ACW /\ a.n = a.n /\ a.n = a.n /\ ∀ (i : Nat), i < a.n -> a.s.lo = J4 i a_1 a /\ a.s.hi = J6 i a_1 a) := by kernel_rfl
theorem BWK (a : SpN) (h : 1 <= a.n /\ a.n <= 40) : BNI a := by
 obtain ⟨h1, h2⟩ := h
 have e1 : IntKind.u64.wrap (a.n : Int) = a.n := u64w (by omega) (by omega)
 have e2 : IntKind.i64.wrap (a.n : Int) = a.n := NU (by omega) (by omega)
 have e3 : (sng a.s).length = 1 := rfl
 rw [BRO]; delta AKN K3 ACW AOB AMW AMC J4 ALA J6 ADP AHN AHA AHY AEQ rQ iU ADU AEX AGL; simp only [CC, eq_self, implies_true, forall_const, e1, e2, e3, Nat.sub_zero, Int.toNat_zero]
 refine ⟨⟨rfl, by omega, by omega⟩, λ h => ?_, λ _ => ⟨⟨by omega, by omega, by omega⟩, by omega, ⟨1, ⟨by omega, λ i hi => ?_⟩, by omega, by omega⟩, λ k hk => ⟨λ hlt => ⟨⟨by omega, by omega, by omega⟩, min (2 * k) a.n, ⟨?_, λ i hi => ?_⟩, by omega, by omega⟩, λ hge i hi => ?_⟩⟩⟩
 ·simp at h; omega
 ·by_cases h : i < 1
  ·obtain rfl : i = 0 := by omega
   have : 0 < min 1 a.n := by omega
   simp [this]; exact ⟨rfl, rfl⟩
  ·have : ¬ i < min 1 a.n := by omega
   simp [h, this, zSp]
 ·rw [NU (by omega) (by omega)]; omega
 ·have e : (decide (k <= i) && decide (i < k + min k (a.n - k))) = (decide (k <= i) && decide (i < min (2 * k) a.n)) := by
   congr 1; rw [decide_eq_decide]; omega
  rw [e]
  by_cases q1 : k <= i
  ·by_cases q2 : i < min (2 * k) a.n
   ·have q3 : i - k < k := by omega
    simp [q1, q2, q3]
   ·have q4 : ¬ i < k := by omega
    simp [q1, q2, q4]
  ·have q2 : i < min (2 * k) a.n := by omega
   have q3 : i < k := by omega
   simp [q1, q2, q3]
 ·have : i < k := by omega
  simp [this]
theorem BTI : AR Try.prog AUY (C_rep.spec BNA) := Bl C_rep BPR [(0, 201)] [] BLV (λ _ => by kernel_rfl) (λ _ => AC BTD AI) (λ a h => BWK a h) (λ _ => Ec rfl rfl) _
def dSs1 : List AVal -> Heap -> Option (List Span × List (Nat × Nat) × List Nat)
 | [y], H => match Wx y H with
  | some (l, f) => some (l, [], f)
  | none => none
 | _, _ => none
def C_clo : Ctr := { α := List Span, xs := λ l => [.d (CK l)], val := λ l => .own 0 2 0 l.length, keep := λ l => [(0, .live (rowS l))], pre := λ l => [0 < l.length /\ l.length < 1073741824] }
def BPE : Ann := { ann 8 [] with mt := λ id => id == 3 }
def BPV (l : List Span) : Prop := CR Try.prog BPE AEA (AL AEA) (C_clo.xs l) (AE []) (C_clo.val l) (C_clo.keep l) [(0, 4032)] []
abbrev Ly a b c d:=AK a b c c d
abbrev Cs a b c d e:=AK a b c d (nQ e)
attribute [go_sem] Ly Cs
theorem BSK (l : List Span) : (BPV l) = (And (OU 0 (GY l)) (Ly (Cs (Od AU 0) (Od II (GY l)) (Kd (Gm (GY l))) (bZ (GY l) 9223372036854775807) (hC (DN (GY l)) 16)) AU (NA l (DN (GY l))) (AF (λ i=>VH i l (IA l i) l (MT i 0))))) := by kernel_rfl
theorem BHF : AR Try.prog K2 (C_clo.spec dSs1) := Bl C_clo (λ _ => BPE) [(0, 4032)] [] AZB (λ _ => by kernel_rfl) (λ _ => AI) (λ (l : List Span) h => by
 show BPV l; rw [BSK]<;> delta LV He CI CH CL GY AF CV DC AS IA CW MT II LX UN MN hC AH AK BN BQ BU Ly BJ BR CB BT DN NT EK HQ AU NA OU JN TF VH YS Gm Od Kd nQ Cs bZ; simp only [CC, eq_self, implies_true, forall_const]
 obtain ⟨h1, h2⟩ : 0 < l.length /\ l.length < 1073741824 := h
 exact ⟨h1, ⟨λ _ => h1, by omega, by omega⟩, λ _ _ => ⟨rfl, rfl⟩⟩) (λ _ => Ec rfl rfl) _
def farS : Span := ⟨-100000000, 100000000⟩
def Pv (c : Cht) (j : Int) : Span := bif hasN c.ns j then (ntOf c.ns j).t else farS
def Kb (c : Cht) : List Span := OF c.ms.length λ i => Pv c (i : Int)
structure Sn where
 seen : Int -> Bool
 deriving Inhabited
def left (c : Cht) (seen : Int -> Bool) : Nat -> Nat
 | 0 => 0
 | k + 1 => left c seen k + bif (hasN c.ns (k : Int) && !seen (k : Int)) then 1 else 0
def nt3 (w : Dk) : Shape := { α := Sn, dflt := default, T := λ s => ⟨[(3, .own 202 2 0 w.c.ms.length), (19, .bptr 203 0)], dkK w ++ [(202, .live (.row 2 w.c.ms.length λ i => IY (bif s.seen (i : Int) then (ntOf w.c.ns (i : Int)).t else farS))), (203, .live (.miter 101 (hasN w.c.ns) w.st s.seen none))]⟩, inv := λ s => ∀ j, s.seen j = true -> hasN w.c.ns j = true, meas := λ s => left w.c s.seen w.c.ms.length, first := [(202, 2128), (203, 3064)] }
def nsIn (c : Cht) : Prop := ∀ j, hasN c.ns j = true -> 0 <= j /\ j < c.ms.length
def C_not : Ctr := { ro := [100, 101], α := Dk, xs := λ _ => [.bptr 100 0], L := λ w => dkL w, val := λ w => .d (CK (Kb w.c)), keep := λ w => dkK w, pre := λ w => [1 <= w.c.ms.length /\ w.c.ms.length <= 40 /\ nsIn w.c] }
def BPW (w : Dk) : Ann := { ann 31 [(AUY, C_rep.spec BNA)] with E := [100, 101], md := λ id => if id = 2 then some (λ k => if k = 4 then 5 else 0) else if id = 3 then some (λ k => if k = 0 then 6 else 0) else if id = 4 then some (λ k => if k = 0 then 7 else 0) else none, loops := λ id => if id = 3 then some [nt3 w] else none }
def BQB (w : Dk) : Prop := CR Try.prog (BPW w) AOK (AL AOK) (C_not.xs w) (AE (C_not.L w)) (C_not.val w) (C_not.keep w) [] [202]
abbrev G9:=@cond Span
abbrev aL:=Sn.seen
abbrev MY a b c d:=Fl (mY a b) c d
abbrev AOQ a b:=TY (AG a) b
abbrev fM a b:=AOQ a (CG b)
abbrev dS a b:=aL a (CG b)
abbrev PY a:=DN (HX a)
abbrev JR a b c d e f:=And (AK a b c d e) f
abbrev Ah:=BU 1
attribute [go_sem] G9 aL MY AOQ fM dS PY JR Ah
theorem BSY (w : Dk) : (BQB w) = (AH (DA Ah VC (AF (λ i=>BR i 1 (CB (IA (sng (IA (ZV (Di (-100000000) 100000000)) 0)) i) (-100000000)) (BN (IA (sng (IA (ZV (Di (-100000000) 100000000)) 0)) i) 100000000))) (RD (AG w)) (JX (Jo w)) (UQ (Jo w))) ((@Exists Sn) (λ i=>JR AU (St w) (SG w) (TN w) (FR (AG w) (St w) (λ j=>FP j (AG w)) (DB (AG w)) (λ j=>DE j (AG w)) (KJ w) (Mp BI (eZ w) (HB w) (Se (AG w)) (St w) (AF (λ j=>HD j (AG w) (BT (G9 (dS i j) (fM w j) farS) (IA (ZV (Di (-100000000) 100000000)) 0)) (BJ (G9 (dS i j) (fM w j) farS) (IA (ZV (Di (-100000000) 100000000)) 0)))) (HB w) (DF (λ j=>EX (aL i j))))) (DF (λ j=>HQ (aL i j) (EK (NC (AG w) j)))))) ((λ (f : Sn -> Prop) => ∀ (x : Sn), f x) (λ i=>CV (DF (λ j=>HQ (aL i j) (EK (NC (AG w) j)))) (BH (eZ w) (HB w) (CV (DF (λ j=>HQ (NC (AG w) j) (EK (aL i j)))) (DP (FY (GY (Kb (AG w))) (AG w)) (Fw (Jo w)) (AF (λ j=>PK j (Kb (AG w)) j (G9 (dS i (DN j)) (fM w (DN j)) farS))) (AG w) (λ j=>FU j w) w)) (DF (λ j=>HQ (NC (AG w) j) (CV (EX (aL i j)) (BH (eZ w) (HB w) (And (CS j (Jo w)) (OU (PY j) (Jo w))) ((@Exists Sn) (λ k=>AH (AK AU (St w) (SG w) (TN w) (FR (AG w) (St w) (λ l=>FP l (AG w)) (DB (AG w)) (λ l=>DE l (AG w)) (KJ w) (Mp BI (eZ w) (HB w) (Se (AG w)) (St w) (AF (λ l=>HD l (AG w) (CB (G9 (dS k l) (fM w l) farS) (MY l (PY j) (KU (AG w) j) (CI (G9 (dS i l) (fM w l) farS)))) (BN (G9 (dS k l) (fM w l) farS) (MY l (PY j) (CH (AOQ w j)) (CH (G9 (dS i l) (fM w l) farS)))))) (HB w) (DF (λ l=>LV (aL k l) (or (AJH l j) (aL i l))))))) (DF (λ l=>HQ (aL k l) (EK (NC (AG w) l)))) (DC (left (AG w) (aL k) (Jo w)) (left (AG w) (aL i) (Jo w))))))))))))) := by kernel_rfl
theorem AVG (c : Cht) (s t : Int -> Bool) (h : ∀ j, s j = true -> t j = true) : ∀ k, left c t k <= left c s k
 | 0 => Nat.le_refl _
 | k + 1 => by
  have ih := AVG c s t h k
  have hk := h (k : Int)
  simp only [left]
  cases hN : hasN c.ns (k : Int) <;> cases h1 : s (k : Int) <;> cases h2 : t (k : Int) <;> simp_all <;> omega
theorem AXH (c : Cht) (s t : Int -> Bool) (h : ∀ j, s j = true -> t j = true) {j : Nat} (h0 : hasN c.ns (j : Int) = true) (h1 : s (j : Int) = false) (h2 : t (j : Int) = true) : ∀ k, j < k -> left c t k < left c s k
 | 0, hj => by omega
 | k + 1, hj => by
  by_cases e : j = k
  ·subst e
   have := AVG c s t h j
   simp only [left, h0, h1, h2]
   simp; omega
  ·have ih := AXH c s t h h0 h1 h2 k (by omega)
   have hk := h (k : Int)
   simp only [left]
   cases hN : hasN c.ns (k : Int) <;> cases h3 : s (k : Int) <;> cases h4 : t (k : Int) <;> simp_all <;> omega
theorem BVP (w : Dk) (h : 1 <= w.c.ms.length /\ w.c.ms.length <= 40 /\ nsIn w.c) : BQB w := by
 obtain ⟨h1, h2, h3⟩ := h
 rw [BSY]<;> delta LV He CI CH FE EE FH CL GY AF CV DC AS IA CG CW HU KV JT HP GG IQ IV IX JU GZ GM HK Eb LX HX UN OE DF MA MN Fl AJH AG ID mY Di G9 aL AH DD EL AK BN BQ CF AJ BU FT hJ BJ KB AN AM BV CD BR BL AO DZ EI NO DV DI CB AT BB EP HD BO Mp DY AP BT BA AW FZ CX AV DB DN CM NC JF KU PN EU TY NT BH BI TW PY EK GA CS UE HQ MY AU FY FM XD JY ND KO FU FP HB LI JX OU JN DE QN DA EX ME Se JO JM FR VC UQ DP KJ SG TN RD JR ZV Ah Jo PK St AOQ bZ Fw fM dS eZ; simp only [CC, eq_self, implies_true, forall_const]
 refine ⟨⟨by omega, λ j hj => ?_, by omega, h2⟩, ⟨⟨λ _ => false⟩, ⟨λ i hi => ⟨rfl, rfl⟩, λ _ => rfl⟩, λ j hj => by cases hj⟩, λ s hs => ⟨λ hall => ⟨rng_length _ _, Nat.le_refl _, λ j hj => ?_⟩, λ k hk hsk => ⟨⟨h3 k hk, by have := h3 k hk; omega⟩, ⟨λ n => decide (n = k) || s.seen n⟩, ⟨λ i hi => ?_, λ _ => rfl⟩, λ j hj => ?_, ?_⟩⟩⟩
 ·obtain rfl : j = 0 := by omega
  exact ⟨rfl, rfl⟩
 ·have hj : j < w.c.ms.length := by simpa [Kb] using hj
  have e : s.seen (j : Int) = hasN w.c.ns (j : Int) := by
   cases hq : hasN w.c.ns (j : Int) with
   | true => exact hall _ hq
   | false =>
    cases hq2 : s.seen (j : Int) with
    | false => rfl
    | true => rw [hs _ hq2] at hq; cases hq
  unfold Kb; rw [HM _ _ _ hj, e]; exact ⟨rfl, rfl⟩
 ·have hk0 := h3 k hk
  have e : decide ((i : Int) = k) = decide (i = k.toNat) := by
   rw [Bool.eq_iff_iff, decide_eq_true_eq, decide_eq_true_eq]; omega
  simp only [e]
  by_cases hi2 : i = k.toNat
  ·have : (i : Int) = k := by omega
   rw [this]; simp [hi2]
  ·simp [hi2]
 ·simp only [Bool.or_eq_true, decide_eq_true_eq] at hj
  rcases hj with rfl | hj
  ·exact hk
  ·exact hs j hj
 ·have hk0 := h3 k hk
  have e : ((k.toNat : Nat) : Int) = k := by omega
  exact AXH w.c _ _ (λ j hj => by simp [hj]) (j := k.toNat) (by rw [e]; exact hk) (by rw [e]; exact hsk) (by rw [e]; simp) _ (by omega)
theorem BDC : AR Try.prog ACT (C_not.spec D6) := Bl C_not BPW [] [202] BBG (λ _ => by kernel_rfl) (λ _ => AC BTI AI) (λ w h => BVP w h) (λ _ => Ec rfl rfl) _
end Go.Bal
