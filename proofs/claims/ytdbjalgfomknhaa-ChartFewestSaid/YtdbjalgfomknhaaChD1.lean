/- Package chart: times that notes allow. -/
import Derived.Test.YtdbjalgfomknhaaChC
set_option linter.unusedVariables false
set_option linter.unusedSimpArgs false
namespace Go.Bal
open Go Go.Sym Go.Proofs
def dU2 : List AVal -> Option I2
 | [.d (.v (.int .u64 a)), .d (.v (.int .u64 b))] => some ⟨a, b⟩
 | _ => none
def xU2 (x : I2) : List AVal := [.d (.v (.int .u64 x.a)), .d (.v (.int .u64 x.b))]
def BOR (x : I2) : Prop := DN Try.prog (ann 51 []) AYA (AP AYA) (xU2 x) (AH []) (.tup [.d (.v (.int .u64 0)), .d (.v (.int .u64 x.b))]) [] [] []
abbrev Jw:=I2.a
abbrev BCZ:=@HPow.hPow Int Nat Int (@instHPow Int Nat (@instPowNat Int Int.instNatPow))
abbrev Ef:=I2.b
abbrev Ku a:=TP IntKind.u64 a
abbrev qC a b:=Ku (uU a b)
abbrev jG a b:=(@HDiv.hDiv Int Int Int (@instHDiv Int Int.instDiv)) a (BCZ 2 b)
abbrev AUW a b:=jG a (JW b)
abbrev Gp a:=AUW a 32
abbrev iY a:=andI IntKind.u64 a 4294967295
abbrev Cg a b:=KZ a (BW b)
abbrev Uj a:=Cg a 64
attribute [go_sem] Jw BCZ Ef Ku qC jG AUW Gp iY Cg Uj
theorem BUX (x : I2) : (BOR x) = (Cr (LB 32 (Uj 32)) (BJE (LB 32 (Uj 32)) (AU 0 (Ku (XF (Ku (XF (qC (Gp (Jw x)) (Gp (Ef x))) (Gp (Ku (XF (qC (Gp (Jw x)) (iY (Ef x))) (Gp (qC (iY (Jw x)) (iY (Ef x))))))))) (Gp (Ku (XF (iY (Ku (XF (qC (Gp (Jw x)) (iY (Ef x))) (Gp (qC (iY (Jw x)) (iY (Ef x))))))) (qC (iY (Jw x)) (Gp (Ef x))))))))) (AU (Ef x) (qC (Jw x) (Ef x))))) := by kernel_rfl
def AOH := pD dU2 (λ x => .tup [.d (.v (.int .u64 0)), .d (.v (.int .u64 x.b))]) (λ x => [x.a = 1 /\ 0 <= x.b /\ x.b <= 40])
def CGO (x : I2) : Prop := DN Try.prog (ann 30 [(APK, AOH)]) BLT (AP BLT) (xU2 x) (AH []) (.tup [.d (.v (.int .u64 0)), .d (.v (.int .u64 x.b))]) [] [] []
theorem CKF (x : I2) : (CGO x) = (AI (XQ (AU (Jw x) 1) (DI (Ef x)) (Ef x) 40) BM (AM (Ef x))) := by kernel_rfl
theorem hU2 (xs : List AVal) (a : I2) (h : dU2 xs = some a) : xs = xU2 a := by
 unfold dU2 at h; split at h <;> cases h; rfl
theorem u64w {n : Int} (h0 : 0 <= n) (h1 : n < 18446744073709551616) : IntKind.u64.wrap n = n := by
 simp only [IntKind.wrap, IntKind.bits, IntKind.signed]
 have : n % (2 ^ 64 : Int) = n := Int.emod_eq_of_lt h0 (by omega)
 simp only [this]
 simp
theorem BVV : AR Try.prog APK AOH := dS xU2 hU2 λ x h => Su (A := ann 51 []) (ren := []) (fz := []) BRY (by kernel_rfl) AL (by
 show BOR x; rw [BUX]<;> delta TP AU BW KZ XF JW uU Jw BCZ Ef AI AN Cr dN BJE DI LB jG Cg AUW Ku Gp Uj qC iY
 obtain ⟨a, b⟩ := x
 obtain ⟨h1, h2, h3⟩ : a = 1 /\ 0 <= b /\ b <= 40 := h
 subst h1
 obtain ⟨n, rfl⟩ := Int.eq_ofNat_of_zero_le h2
 have hn : n < 41 := by omega
 clear h2 h3
 revert hn; revert n; decide +kernel)
theorem CJG : AR Try.prog BMD AOH := dS xU2 hU2 λ x h => Su (A := ann 30 [(APK, AOH)]) (ren := []) (fz := []) CCB (by kernel_rfl) (AC BVV AL) (by
 show CGO x; rw [CKF]<;> delta AU Aj KZ Jw Ef AI AM DI NM BM XQ; exact ⟨h, rfl, rfl⟩)
def sng (s : Span) : List Span := [s]
def zSp : Span := ⟨0, 0⟩
structure SpN where
 s : Span
 n : Nat
def C_rep : Ctr := { α := SpN, xs := λ a => [.d (DW (sng a.s)), .int a.n], val := λ a => .own 0 2 0 a.n, keep := λ a => [(0, .live (.row 2 a.n λ _ => JS a.s))], pre := λ a => [1 <= a.n /\ a.n <= 40] }
def CGQ : List AVal -> Heap -> Option (SpN × List (Nat × Nat) × List Nat)
 | [y, .d n], H => match jU y H with
  | some (l, f) => some (⟨gD l 0, (JQ n).toNat⟩, [], f)
  | none => none
 | _, _ => none
def rp8 (a : SpN) : Shape := { α := Nat, dflt := 0, T := λ k => ⟨[(7, .own 201 2 0 a.n), (8, .int k)], [(201, .live (.row 2 a.n λ i => JS (bif decide (i < k) then a.s else zSp)))]⟩, inv := λ k => 1 <= k /\ k <= a.n, meas := λ k => a.n - k, first := [(201, 7032)] }
def CGE (a : SpN) : Ann := { ann 48 [(BMD, AOH)] with loops := λ id => if id = 8 then some [rp8 a] else none }
def CHI (a : SpN) : Prop := DN Try.prog (CGE a) BNE (AP BNE) (C_rep.xs a) (AH []) (C_rep.val a) (C_rep.keep a) [(0, 201)] []
abbrev BHN : Prop := (2 : Nat) = (2 : Nat)
abbrev ANB (a : SpN) : Nat := (IntKind.i64.wrap (IntKind.u64.wrap (↑a.n : Int))).toNat
abbrev AXI : Prop := (0 : Nat) = (0 : Nat)
abbrev BFQ (a : SpN) : Prop := a.n = ANB a
abbrev BFF (a : SpN) : Nat := min (sng a.s).length (ANB a)
abbrev BGX (i : Nat) (a : Nat) (a1 : SpN) : Span := bif decide (i < a) then a1.s else zSp
abbrev ANQ (i : Nat) (a : Nat) (a1 : SpN) : Int := (BGX i a a1).lo
abbrev BHR (i : Nat) (a : SpN) : Bool := decide (i < BFF a)
abbrev AOR (i : Nat) (a : Nat) (a1 : SpN) : Int := (BGX i a a1).hi
abbrev AXL (a : Nat) (a1 : SpN) : Prop := (1 : Nat) <= a /\ a <= a1.n
abbrev AYU (a : Nat) (a1 : SpN) : Prop := (↑a : Int) < (↑a1.n : Int)
abbrev AYP (a : Nat) : Prop := (0 : Int) <= (↑a : Int)
abbrev BBG (a : Nat) (a1 : SpN) : Prop := (↑a : Int) <= (↑a1.n : Int)
abbrev AZM (a : Nat) : Nat := a - (0 : Nat)
abbrev M6 (a : Nat) : Nat := (0 : Nat) + a
abbrev xB (a : SpN) (a1 : Nat) : Nat := a.n - a1
abbrev AYE (a : Nat) (a1 : SpN) : Nat := min (a - Int.toNat (0 : Int)) (xB a1 a)
abbrev AYN (a : Nat) (i : Nat) (a1 : SpN) : Bool := decide (M6 a <= i) && decide (i < M6 a + AYE a a1)
abbrev AYX (i : Nat) (a : Nat) (a1 : SpN) : Span := bif decide ((0 : Nat) + Int.toNat (0 : Int) + (i - M6 a) < a) then a1.s else zSp
theorem CIS (a : SpN) : (CHI a) = ((IntKind.u64.wrap (↑(sng a.s).length : Int) = (1 : Int) /\ (0 : Int) <= IntKind.u64.wrap (↑a.n : Int) /\ IntKind.u64.wrap (↑a.n : Int) <= (40 : Int)) /\ bif bif decide ((0 : Int) > (0 :
 Int)) then true else decide (IntKind.u64.wrap (↑a.n : Int) > (9223372036854775807 : Int)) then False else ((0 : Int) <= IntKind.i64.wrap (IntKind.u64.wrap (↑a.n : Int)) /\ IntKind.i64.wrap (IntKind.u64.wrap (↑a.n : Int)) =
 IntKind.i64.wrap (IntKind.u64.wrap (↑a.n : Int)) /\ IntKind.i64.wrap (IntKind.u64.wrap (↑a.n : Int)) <= (9223372036854775807 : Int) /\ (↑(16 : Nat) : Int) * IntKind.i64.wrap (IntKind.u64.wrap (↑a.n : Int)) <=
 (281474976710656 : Int)) /\ ((True /\ ((0 : Nat) < (sng a.s).length -> BHN)) /\ (ANB a).le (ANB a)) /\ (∃ (a_1 : Nat), (AXI /\ BFQ a /\ (↑a_1 : Int) = (↑(BFF a) : Int) /\ BFQ a /\ ∀ (i : Nat), i < a.n
 -> (ANQ i a_1 a = bif BHR i a then (gD (sng a.s) i).lo else (0 : Int)) /\ AOR i a_1 a = bif BHR i a then (gD (sng a.s) i).hi else (0 : Int)) /\ AXL a_1 a) /\ ∀ (a_1 : Nat), AXL a_1 a -> bif decide
 (AYU a_1 a) then ((AYP a_1 /\ BBG a_1 a /\ (↑a.n : Int) <= (↑a.n : Int) /\ ((↑a_1 : Int) = (0 : Int) ∨ AYU a_1 a)) /\ ((0 : Int) <= (0 : Int) /\ AYP a_1 /\ BBG a_1 a /\ ((0 : Int) = (0 : Int) ∨ (0 :
 Int) < (↑a_1 : Int))) /\ ((0 : Nat) + AZM a_1 <= a.n /\ ((0 : Nat) < AZM a_1 -> BHN)) /\ (M6 a_1 + xB a a_1).le a.n) /\ ∃ (a_3 : Nat), (AXI /\ a.n = a.n /\ (↑a_3 : Int) = IntKind.i64.wrap ((↑a_1 :
 Int) + (↑(AYE a_1 a) : Int)) /\ a.n = a.n /\ ∀ (i : Nat), i < a.n -> (ANQ i a_3 a = bif AYN a_1 i a then (AYX i a_1 a).lo else ANQ i a_1 a) /\ AOR i a_3 a = bif AYN a_1 i a then (AYX i
 a_1 a).hi else AOR i a_1 a) /\ AXL a_3 a /\ xB a a_3 < xB a a_1 else AXI /\ a.n = a.n /\ a.n = a.n /\ ∀ (i : Nat), i < a.n -> a.s.lo = ANQ i a_1 a /\ a.s.hi = AOR i a_1 a) := by kernel_rfl
theorem CNS (a : SpN) (h : 1 <= a.n /\ a.n <= 40) : CHI a := by
 obtain ⟨h1, h2⟩ := h
 have e1 : IntKind.u64.wrap (a.n : Int) = a.n := u64w (by omega) (by omega)
 have e2 : IntKind.i64.wrap (a.n : Int) = a.n := PE (by omega) (by omega)
 have e3 : (sng a.s).length = 1 := rfl
 rw [CIS]; delta BHN ANB AXI BFQ BFF BGX ANQ BHR AOR AXL AYU AYP BBG AZM M6 xB AYE AYN AYX; simp only [CC, eq_self, implies_true, forall_const, e1, e2, e3, Nat.sub_zero, Int.toNat_zero]
 refine ⟨⟨rfl, by omega, by omega⟩, λ h => ?_, λ _ => ⟨⟨by omega, by omega, by omega⟩, by omega, ⟨1, ⟨by omega, λ i hi => ?_⟩, by omega, by omega⟩, λ k hk => ⟨λ hlt => ⟨⟨by omega, by omega, by omega⟩, min (2 * k) a.n, ⟨?_, λ i hi => ?_⟩, by omega, by omega⟩, λ hge i hi => ?_⟩⟩⟩
 ·simp at h; omega
 ·by_cases h : i < 1
  ·obtain rfl : i = 0 := by omega
   have : 0 < min 1 a.n := by omega
   simp [this]; exact ⟨rfl, rfl⟩
  ·have : ¬ i < min 1 a.n := by omega
   simp [h, this, zSp]
 ·rw [PE (by omega) (by omega)]; omega
 ·have e : (decide (k <= i) && decide (i < k + min k (a.n - k))) = (decide (k <= i) && decide (i < min (2 * k) a.n)) := by
   congr 1; rw [decide_eq_decide]; omega
  rw [e]
  by_cases q1 : k <= i
  ·by_cases q2 : i < min (2 * k) a.n
   ·have q3 : i - k < k := by omega
    simp [q1, q2, q3]
   ·have q4 : ¬ i < k := by omega
    simp [q1, q2, q4]
  ·have q2 : i < min (2 * k) a.n := by omega
   have q3 : i < k := by omega
   simp [q1, q2, q3]
 ·have : i < k := by omega
  simp [this]
theorem CKS : AR Try.prog BLN (C_rep.spec CGQ) := Jp C_rep CGE [(0, 201)] [] CEO (λ _ => by kernel_rfl) (λ _ => AC CJG AL) (λ a h => CNS a h) (λ _ => Mi rfl rfl) _
def dSs1 : List AVal -> Heap -> Option (List Span × List (Nat × Nat) × List Nat)
 | [y], H => match jU y H with
  | some (l, f) => some (l, [], f)
  | none => none
 | _, _ => none
def C_clo : Ctr := { α := List Span, xs := λ l => [.d (DW l)], val := λ l => .own 0 2 0 l.length, keep := λ l => [(0, .live (rowS l))], pre := λ l => [0 < l.length /\ l.length < 1073741824] }
def CGF : Ann := { ann 8 [] with mt := λ id => id == 3 }
def CFH (l : List Span) : Prop := DN Try.prog CGF BBN (AP BBN) (C_clo.xs l) (AH []) (C_clo.val l) (C_clo.keep l) [(0, 4032)] []
abbrev ADJ a b c d:=AN a b c c d
abbrev Kr a b c d e:=AN a b c d (YR e)
abbrev Dm:=BV 2
attribute [go_sem] ADJ Kr Dm
theorem CIR (l : List Span) : (CFH l) = (And (NT 0 (DR l)) (ADJ (Kr (Pj AJ Dm) (Hu FO (DR l) 2) (Hc (LJ (DR l))) (YN (DR l) 9223372036854775807) (Ze (BH (DR l)) 16)) AJ (JN l (BH (DR l))) (AK (λ i=>UI i (DR l) l l (NR i 0) (ML l (NR i 0)))))) := by kernel_rfl
theorem BYW : AR Try.prog ANV (C_clo.spec dSs1) := Jp C_clo (λ _ => CGF) [(0, 4032)] [] BST (λ _ => by kernel_rfl) (λ _ => AL) (λ (l : List Span) h => by
 show CFH l; rw [CIR]<;> delta MF Sw BU CO CL DR AK CA DD AU ML GM NR FO PB ZA MG Ze AI AN BO BK BJ BV ADJ CD DP AJ BH GK GX VK KQ LJ JN PI Hu YR MQ Kr UI YN Hc Pj NT Dm; simp only [CC, eq_self, implies_true, forall_const]
 obtain ⟨h1, h2⟩ : 0 < l.length /\ l.length < 1073741824 := h
 exact ⟨h1, ⟨λ _ => h1, by omega, by omega⟩, λ _ _ => ⟨rfl, rfl⟩⟩) (λ _ => Mi rfl rfl) _
def farS : Span := ⟨-100000000, 100000000⟩
def bD (c : Cht) (j : Int) : Span := bif hasN c.ns j then (ntOf c.ns j).t else farS
def vB (c : Cht) : List Span := HX c.ms.length λ i => bD c (i : Int)
structure Sn where
 seen : Int -> Bool
 deriving Inhabited
def left (c : Cht) (seen : Int -> Bool) : Nat -> Nat
 | 0 => 0
 | k + 1 => left c seen k + bif (hasN c.ns (k : Int) && !seen (k : Int)) then 1 else 0
def nt3 (w : Dk) : Shape := { α := Sn, dflt := default, T := λ s => ⟨[(3, .own 202 2 0 w.c.ms.length), (19, .bptr 203 0)], dkK w ++ [(202, .live (.row 2 w.c.ms.length λ i => JS (bif s.seen (i : Int) then (ntOf w.c.ns (i : Int)).t else farS))), (203, .live (.miter 101 (hasN w.c.ns) w.st s.seen none))]⟩, inv := λ s => ∀ j, s.seen j = true -> hasN w.c.ns j = true, meas := λ s => left w.c s.seen w.c.ms.length, first := [(202, 2128), (203, 3064)] }
def nsIn (c : Cht) : Prop := ∀ j, hasN c.ns j = true -> 0 <= j /\ j < c.ms.length
def C_not : Ctr := { ro := [100, 101], α := Dk, xs := λ _ => [.bptr 100 0], L := λ w => dkL w, val := λ w => .d (DW (vB w.c)), keep := λ w => dkK w, pre := λ w => [1 <= w.c.ms.length /\ w.c.ms.length <= 40 /\ nsIn w.c] }
def CES (w : Dk) : Ann := { ann 31 [(BLN, C_rep.spec CGQ)] with E := [100, 101], md := λ id => if id = 2 then some (λ k => if k = 4 then 5 else 0) else if id = 3 then some (λ k => if k = 0 then 6 else 0) else if id = 4 then some (λ k => if k = 0 then 7 else 0) else none, loops := λ id => if id = 3 then some [nt3 w] else none }
def CFL (w : Dk) : Prop := DN Try.prog (CES w) BEY (AP BEY) (C_not.xs w) (AH (C_not.L w)) (C_not.val w) (C_not.keep w) [] [202]
abbrev mG:=Sn.seen
abbrev AKB a b c d e f g:=NV a (EO b) (λ i=>EL i c) (GO d) (λ i=>BS i e) f g
abbrev VD a b c d:=YE (Vy a b) c d
abbrev BGS a b:=FQ (IK a b)
abbrev lM a b c:=(@cond Span) a (BGS b (BW c)) farS
abbrev lS a b:=mG a (BW b)
abbrev dJ a:=BH (JW a)
abbrev ALR a (b:Int->Prop):=And a (BI b)
abbrev TB:=BV 1
attribute [go_sem] mG AKB VD BGS lM lS dJ ALR TB
theorem CJK (w : Dk) : (CFL w) = (AI (CE TB XG (AK (λ i=>YP i 1 (GK (sng (ML (Js (Ed (-100000000) 100000000)) 0)) i) (-100000000) (ML (sng (ML (Js (Ed (-100000000) 100000000)) 0)) i) 100000000)) (Bb (AQ w)) (SJ (Fg w)) (GM (Fg w) 40)) ((@Exists Sn) (λ i=>ALR (AN AJ (oW w) (QM w) (QI w) (AKB (AQ w) (AQ w) (AQ w) (AQ w) (AQ w) (EP w) (A1 BC (rB w) (EC w) (Vt (λ j=>IK w j)) (oW w) (AK (λ j=>VK j (Fg w) (BU (lM (lS i j) w j)) (GK (Js (Ed (-100000000) 100000000)) 0) (lM (lS i j) w j) (ML (Js (Ed (-100000000) 100000000)) 0))) (EC w) (BI (λ j=>HF (mG i j)))))) (λ j=>KQ (mG i j) (GX (OO (AQ w) j))))) ((λ (f : Sn -> Prop) => ∀ (x : Sn), f x) (λ i=>CA (BI (λ j=>KQ (mG i j) (GX (OO (AQ w) j)))) (BQ (rB w) (EC w) (CA (BI (λ j=>KQ (OO (AQ w) j) (GX (mG i j)))) (Ud (JN (vB (AQ w)) (Fg w)) (MT (Fg w)) (AK (λ j=>MQ j (DR (vB (AQ w))) (vB (AQ w)) (BU (lM (lS i (BH j)) w (BH j))) (lM (lS i (BH j)) w (BH j)))) (QM w) (QI w) (AQ w) (Uw w w))) (BI (λ j=>KQ (OO (AQ w) j) (CA (HF (mG i j)) (BQ (rB w) (EC w) (EW j (Fg w) (NT (dJ j) (Fg w))) ((@Exists Sn) (λ k=>IE (AN AJ (oW w) (QM w) (QI w) (AKB (AQ w) (AQ w) (AQ w) (AQ w) (AQ w) (EP w) (A1 BC (rB w) (EC w) (Vt (λ l=>IK w l)) (oW w) (AK (λ l=>YP l (Fg w) (BU (lM (lS k l) w l)) (VD l (dJ j) (CG (IK w j)) (BU (lM (lS i l) w l))) (lM (lS k l) w l) (VD l (dJ j) (CO (BGS w j)) (CO (lM (lS i l) w l))))) (EC w) (BI (λ l=>MF (mG k l) (or (BER l j) (mG i l))))))) (BI (λ l=>KQ (mG k l) (GX (OO (AQ w) l)))) (left (AQ w) (mG k) (Fg w)) (left (AQ w) (mG i) (Fg w)))))))))))) := by kernel_rfl
theorem BQX (c : Cht) (s t : Int -> Bool) (h : ∀ j, s j = true -> t j = true) : ∀ k, left c t k <= left c s k
 | 0 => Nat.le_refl _
 | k + 1 => by
  have ih := BQX c s t h k
  have hk := h (k : Int)
  simp only [left]
  cases hN : hasN c.ns (k : Int) <;> cases h1 : s (k : Int) <;> cases h2 : t (k : Int) <;> simp_all <;> omega
theorem BOG (c : Cht) (s t : Int -> Bool) (h : ∀ j, s j = true -> t j = true) {j : Nat} (h0 : hasN c.ns (j : Int) = true) (h1 : s (j : Int) = false) (h2 : t (j : Int) = true) : ∀ k, j < k -> left c t k < left c s k
 | 0, hj => by omega
 | k + 1, hj => by
  by_cases e : j = k
  ·subst e
   have := BQX c s t h j
   simp only [left, h0, h1, h2]
   simp; omega
  ·have ih := BOG c s t h h0 h1 h2 k (by omega)
   have hk := h (k : Int)
   simp only [left]
   cases hN : hasN c.ns (k : Int) <;> cases h3 : s (k : Int) <;> cases h4 : t (k : Int) <;> simp_all <;> omega
theorem CMO (w : Dk) (h : 1 <= w.c.ms.length /\ w.c.ms.length <= 40 /\ nsIn w.c) : CFL w := by
 obtain ⟨h1, h2, h3⟩ := h
 rw [CJK]<;> delta MF Sw BU CO FM FQ FP CL DR AK CA DD AU ML BW GM KZ KB IV HC HA HZ ID IA JD GN FW FY Wy PB JW ZA PY BI NH MG YE BER AQ OE KO Vy Ed mG AI BG DV AN BO BK CG BJ BB BY AO AM BL BV ED Wi A1 NK CS CD CJ CX DM AZ CR DP DH BA AW HD DQ HY DG BD FS FU IK BE OZ AJ FR OO BH DI BZ IE MN KP EO BC XD GK GX KU GO TL Bf LD LG ZY VO BQ dJ VD SJ MK DO OG LP EL MX NF QA VK KD CE BS QQ OH KQ EC JN NA EW PI HF XG Vt MQ UR VX EP IF NV ALR YN QM MT QI NT Ud UK Js Fg Bb TB YP AKB BGS lS Uw rB oW lM; simp only [CC, eq_self, implies_true, forall_const]
 refine ⟨⟨by omega, λ j hj => ?_, by omega, h2⟩, ⟨⟨λ _ => false⟩, ⟨λ i hi => ⟨rfl, rfl⟩, λ _ => rfl⟩, λ j hj => by cases hj⟩, λ s hs => ⟨λ hall => ⟨rng_length _ _, Nat.le_refl _, λ j hj => ?_⟩, λ k hk hsk => ⟨⟨h3 k hk, by have := h3 k hk; omega⟩, ⟨λ n => decide (n = k) || s.seen n⟩, ⟨λ i hi => ?_, λ _ => rfl⟩, λ j hj => ?_, ?_⟩⟩⟩
 ·obtain rfl : j = 0 := by omega
  exact ⟨rfl, rfl⟩
 ·have hj : j < w.c.ms.length := by simpa [vB] using hj
  have e : s.seen (j : Int) = hasN w.c.ns (j : Int) := by
   cases hq : hasN w.c.ns (j : Int) with
   | true => exact hall _ hq
   | false =>
    cases hq2 : s.seen (j : Int) with
    | false => rfl
    | true => rw [hs _ hq2] at hq; cases hq
  unfold vB; rw [EK _ _ _ hj, e]; exact ⟨rfl, rfl⟩
 ·have hk0 := h3 k hk
  have e : decide ((i : Int) = k) = decide (i = k.toNat) := by
   rw [Bool.eq_iff_iff, decide_eq_true_eq, decide_eq_true_eq]; omega
  simp only [e]
  by_cases hi2 : i = k.toNat
  ·have : (i : Int) = k := by omega
   rw [this]; simp [hi2]
  ·simp [hi2]
 ·simp only [Bool.or_eq_true, decide_eq_true_eq] at hj
  rcases hj with rfl | hj
  ·exact hk
  ·exact hs j hj
 ·have hk0 := h3 k hk
  have e : ((k.toNat : Nat) : Int) = k := by omega
  exact BOG w.c _ _ (λ j hj => by simp [hj]) (j := k.toNat) (by rw [e]; exact hk) (by rw [e]; exact hsk) (by rw [e]; simp) _ (by omega)
theorem CIQ : AR Try.prog BHX (C_not.spec dDk1) := Jp C_not CES [] [202] BYR (λ _ => by kernel_rfl) (λ _ => AC CKS AL) (λ w h => CMO w h) (λ _ => Mi rfl rfl) _
end Go.Bal
