/- Package chart: times that notes allow. -/
import Derived.Test.YtdbjalgfomknhaaGreatChC
set_option linter.unusedVariables false
set_option linter.unusedSimpArgs false
namespace Go.Bal
open Go Go.Sym Go.Proofs
def dU2 : List AVal -> Option I2
 | [.d (.v (.int .u64 a)), .d (.v (.int .u64 b))] => some ⟨a, b⟩
 | _ => none
def xU2 (x : I2) : List AVal := [.d (.v (.int .u64 x.a)), .d (.v (.int .u64 x.b))]
def APR (x : I2) : Prop := CL Try.prog (ann 51 []) Q8 (AH Q8) (xU2 x) (AB []) (.tup [.d (.v (.int .u64 0)), .d (.v (.int .u64 x.b))]) [] [] []
abbrev Ka:=I2.a
abbrev ADE:=@HPow.hPow Int Nat Int (@instHPow Int Nat (@instPowNat Int Int.instNatPow))
abbrev De:=I2.b
abbrev Pg a:=OH IntKind.u64 a
abbrev eU a b:=Pg (Re a b)
abbrev Xq a b:=(@HDiv.hDiv Int Int Int (@instHDiv Int Int.instDiv)) a (ADE 2 b)
abbrev zF a b:=Xq a (HV b)
abbrev Fc a:=zF a 32
abbrev Ze a:=andI IntKind.u64 a 4294967295
abbrev Qu a b:=Qb a (ZM b 64)
attribute [go_sem] Ka ADE De Pg eU Xq zF Fc Ze Qu
theorem AZT (x : I2) : (APR x) = (YT (Qu 32 32) (Y4 (Qu 32 32) (AQ 0 (Pg (PG (Pg (PG (eU (Fc (Ka x)) (Fc (De x))) (Fc (Pg (PG (eU (Fc (Ka x)) (Ze (De x))) (Fc (eU (Ze (Ka x)) (Ze (De x))))))))) (Fc (Pg (PG (Ze (Pg (PG (eU (Fc (Ka x)) (Ze (De x))) (Fc (eU (Ze (Ka x)) (Ze (De x))))))) (eU (Ze (Ka x)) (Fc (De x))))))))) (AQ (De x) (eU (Ka x) (De x))))) := by kernel_rfl
def vF := pD dU2 (λ x => .tup [.d (.v (.int .u64 0)), .d (.v (.int .u64 x.b))]) (λ x => [x.a = 1 /\ 0 <= x.b /\ x.b <= 40])
def BJC (x : I2) : Prop := CL Try.prog (ann 30 [(tM, vF)]) ANK (AH ANK) (xU2 x) (AB []) (.tup [.d (.v (.int .u64 0)), .d (.v (.int .u64 x.b))]) [] [] []
abbrev Nk a:=AQ a 1
attribute [go_sem] Nk
theorem BOC (x : I2) : (BJC x) = (AE (RD (Nk (Ka x)) (De x) (Vi (De x))) AJ (AF (De x))) := by kernel_rfl
theorem hU2 (xs : List AVal) (a : I2) (h : dU2 xs = some a) : xs = xU2 a := by
 unfold dU2 at h; split at h <;> cases h; rfl
theorem u64w {n : Int} (h0 : 0 <= n) (h1 : n < 18446744073709551616) : IntKind.u64.wrap n = n := by
 simp only [IntKind.wrap, IntKind.bits, IntKind.signed]
 have : n % (2 ^ 64 : Int) = n := Int.emod_eq_of_lt h0 (by omega)
 simp only [this]
 simp
theorem AYS : AK Try.prog tM vF := Ik xU2 hU2 λ x h => Rc (A := ann 51 []) (ren := []) (fz := []) ASQ (by kernel_rfl) AD (by
 show APR x; rw [AZT]<;> delta OH AQ BU HD PG HV Re Ka ADE De AE AG YT bE Y4 DC Xq ZM Pg zF Qb Fc Qu eU Ze
 obtain ⟨a, b⟩ := x
 obtain ⟨h1, h2, h3⟩ : a = 1 /\ 0 <= b /\ b <= 40 := h
 subst h1
 obtain ⟨n, rfl⟩ := Int.eq_ofNat_of_zero_le h2
 have hn : n < 41 := by omega
 clear h2 h3
 revert hn; revert n; decide +kernel)
theorem BMK : AK Try.prog ANA vF := Ik xU2 hU2 λ x h => Rc (A := ann 30 [(tM, vF)]) (ren := []) (fz := []) BDV (by kernel_rfl) (AA AYS AD) (by
 show BJC x; rw [BOC]<;> delta AQ WF HD Ka De AE AF DC MF AJ RD Vi Nk; exact ⟨h, rfl, rfl⟩)
def sng (s : Span) : List Span := [s]
def zSp : Span := ⟨0, 0⟩
structure SpN where
 s : Span
 n : Nat
def C_rep : Ctr := { α := SpN, xs := λ a => [.d (DA (sng a.s)), .int a.n], val := λ a => .own 0 2 0 a.n, keep := λ a => [(0, .live (.row 2 a.n λ _ => FX a.s))], pre := λ a => [1 <= a.n /\ a.n <= 40] }
def BJI : List AVal -> Heap -> Option (SpN × List (Nat × Nat) × List Nat)
 | [y, .d n], H => match Vb y H with
  | some (l, f) => some (⟨gD l 0, (HM n).toNat⟩, [], f)
  | none => none
 | _, _ => none
def rp8 (a : SpN) : Shape := { α := Nat, dflt := 0, T := λ k => ⟨[(7, .own 201 2 0 a.n), (8, .int k)], [(201, .live (.row 2 a.n λ i => FX (bif decide (i < k) then a.s else zSp)))]⟩, inv := λ k => 1 <= k /\ k <= a.n, meas := λ k => a.n - k, first := [(201, 7032)] }
def BIO (a : SpN) : Ann := { ann 48 [(ANA, vF)] with loops := λ id => if id = 8 then some [rp8 a] else none }
def BJF (a : SpN) : Prop := CL Try.prog (BIO a) ANC (AH ANC) (C_rep.xs a) (AB []) (C_rep.val a) (C_rep.keep a) [(0, 201)] []
abbrev AGZ : Prop := (2 : Nat) = (2 : Nat)
abbrev uL (a : SpN) : Nat := (IntKind.i64.wrap (IntKind.u64.wrap (↑a.n : Int))).toNat
abbrev M5 : Prop := (0 : Nat) = (0 : Nat)
abbrev AGB (a : SpN) : Prop := a.n = uL a
abbrev ADJ (a : SpN) : Nat := min (sng a.s).length (uL a)
abbrev AGK (i : Nat) (a : Nat) (a1 : SpN) : Span := bif decide (i < a) then a1.s else zSp
abbrev vG (i : Nat) (a : Nat) (a1 : SpN) : Int := (AGK i a a1).lo
abbrev ADR (i : Nat) (a : SpN) : Bool := decide (i < ADJ a)
abbrev uU (i : Nat) (a : Nat) (a1 : SpN) : Int := (AGK i a a1).hi
abbrev M3 (a : Nat) (a1 : SpN) : Prop := (1 : Nat) <= a /\ a <= a1.n
abbrev P8 (a : Nat) (a1 : SpN) : Prop := (↑a : Int) < (↑a1.n : Int)
abbrev U7 (a : Nat) : Prop := (0 : Int) <= (↑a : Int)
abbrev AAS (a : Nat) (a1 : SpN) : Prop := (↑a : Int) <= (↑a1.n : Int)
abbrev Y0 (a : Nat) : Nat := a - (0 : Nat)
abbrev kB (a : Nat) : Nat := (0 : Nat) + a
abbrev kR (a : SpN) (a1 : Nat) : Nat := a.n - a1
abbrev Z6 (a : Nat) (a1 : SpN) : Nat := min (a - Int.toNat (0 : Int)) (kR a1 a)
abbrev X8 (a : Nat) (i : Nat) (a1 : SpN) : Bool := decide (kB a <= i) && decide (i < kB a + Z6 a a1)
abbrev X3 (i : Nat) (a : Nat) (a1 : SpN) : Span := bif decide ((0 : Nat) + Int.toNat (0 : Int) + (i - kB a) < a) then a1.s else zSp
theorem BLQ (a : SpN) : (BJF a) = ((IntKind.u64.wrap (↑(sng a.s).length : Int) = (1 : Int) /\ (0 : Int) <= IntKind.u64.wrap (↑a.n : Int) /\ IntKind.u64.wrap (↑a.n : Int) <= (40 : Int)) /\ bif bif decide ((0 : Int) > (0 :
 Int)) then true else decide (IntKind.u64.wrap (↑a.n : Int) > (9223372036854775807 : Int)) then False else ((0 : Int) <= IntKind.i64.wrap (IntKind.u64.wrap (↑a.n : Int)) /\ IntKind.i64.wrap (IntKind.u64.wrap (↑a.n : Int)) =
 IntKind.i64.wrap (IntKind.u64.wrap (↑a.n : Int)) /\ IntKind.i64.wrap (IntKind.u64.wrap (↑a.n : Int)) <= (9223372036854775807 : Int) /\ (↑(16 : Nat) : Int) * IntKind.i64.wrap (IntKind.u64.wrap (↑a.n : Int)) <=
 (281474976710656 : Int)) /\ ((True /\ ((0 : Nat) < (sng a.s).length -> AGZ)) /\ (uL a).le (uL a)) /\ (∃ (a_1 : Nat), (M5 /\ AGB a /\ (↑a_1 : Int) = (↑(ADJ a) : Int) /\ AGB a /\ ∀ (i : Nat), i < a.n
 -> (vG i a_1 a = bif ADR i a then (gD (sng a.s) i).lo else (0 : Int)) /\ uU i a_1 a = bif ADR i a then (gD (sng a.s) i).hi else (0 : Int)) /\ M3 a_1 a) /\ ∀ (a_1 : Nat), M3 a_1 a -> bif decide
 (P8 a_1 a) then ((U7 a_1 /\ AAS a_1 a /\ (↑a.n : Int) <= (↑a.n : Int) /\ ((↑a_1 : Int) = (0 : Int) ∨ P8 a_1 a)) /\ ((0 : Int) <= (0 : Int) /\ U7 a_1 /\ AAS a_1 a /\ ((0 : Int) = (0 : Int) ∨ (0 :
 Int) < (↑a_1 : Int))) /\ ((0 : Nat) + Y0 a_1 <= a.n /\ ((0 : Nat) < Y0 a_1 -> AGZ)) /\ (kB a_1 + kR a a_1).le a.n) /\ ∃ (a_3 : Nat), (M5 /\ a.n = a.n /\ (↑a_3 : Int) = IntKind.i64.wrap ((↑a_1 :
 Int) + (↑(Z6 a_1 a) : Int)) /\ a.n = a.n /\ ∀ (i : Nat), i < a.n -> (vG i a_3 a = bif X8 a_1 i a then (X3 i a_1 a).lo else vG i a_1 a) /\ uU i a_3 a = bif X8 a_1 i a then (X3 i
 a_1 a).hi else uU i a_1 a) /\ M3 a_3 a /\ kR a a_3 < kR a a_1 else M5 /\ a.n = a.n /\ a.n = a.n /\ ∀ (i : Nat), i < a.n -> a.s.lo = vG i a_1 a /\ a.s.hi = uU i a_1 a) := by kernel_rfl
theorem BRW (a : SpN) (h : 1 <= a.n /\ a.n <= 40) : BJF a := by
 obtain ⟨h1, h2⟩ := h
 have e1 : IntKind.u64.wrap (a.n : Int) = a.n := u64w (by omega) (by omega)
 have e2 : IntKind.i64.wrap (a.n : Int) = a.n := Dh (by omega) (by omega)
 have e3 : (sng a.s).length = 1 := rfl
 rw [BLQ]; delta AGZ uL M5 AGB ADJ AGK vG ADR uU M3 P8 U7 AAS Y0 kB kR Z6 X8 X3; simp only [CC, eq_self, implies_true, forall_const, e1, e2, e3, Nat.sub_zero, Int.toNat_zero]
 refine ⟨⟨rfl, by omega, by omega⟩, λ h => ?_, λ _ => ⟨⟨by omega, by omega, by omega⟩, by omega, ⟨1, ⟨by omega, λ i hi => ?_⟩, by omega, by omega⟩, λ k hk => ⟨λ hlt => ⟨⟨by omega, by omega, by omega⟩, min (2 * k) a.n, ⟨?_, λ i hi => ?_⟩, by omega, by omega⟩, λ hge i hi => ?_⟩⟩⟩
 ·simp at h; omega
 ·by_cases h : i < 1
  ·obtain rfl : i = 0 := by omega
   have : 0 < min 1 a.n := by omega
   simp [this]; exact ⟨rfl, rfl⟩
  ·have : ¬ i < min 1 a.n := by omega
   simp [h, this, zSp]
 ·rw [Dh (by omega) (by omega)]; omega
 ·have e : (decide (k <= i) && decide (i < k + min k (a.n - k))) = (decide (k <= i) && decide (i < min (2 * k) a.n)) := by
   congr 1; rw [decide_eq_decide]; omega
  rw [e]
  by_cases q1 : k <= i
  ·by_cases q2 : i < min (2 * k) a.n
   ·have q3 : i - k < k := by omega
    simp [q1, q2, q3]
   ·have q4 : ¬ i < k := by omega
    simp [q1, q2, q4]
  ·have q2 : i < min (2 * k) a.n := by omega
   have q3 : i < k := by omega
   simp [q1, q2, q3]
 ·have : i < k := by omega
  simp [this]
theorem BNJ : AK Try.prog AMS (C_rep.spec BJI) := XM C_rep BIO [(0, 201)] [] BFZ (λ _ => by kernel_rfl) (λ _ => AA BMK AD) (λ a h => BRW a h) (λ _ => YR rfl rfl) _
def dSs1 : List AVal -> Heap -> Option (List Span × List (Nat × Nat) × List Nat)
 | [y], H => match Vb y H with
  | some (l, f) => some (l, [], f)
  | none => none
 | _, _ => none
def C_clo : Ctr := { α := List Span, xs := λ l => [.d (DA l)], val := λ l => .own 0 2 0 l.length, keep := λ l => [(0, .live (rowS l))], pre := λ l => [0 < l.length /\ l.length < 1073741824] }
def BHD : Ann := { ann 8 [] with mt := λ id => id == 3 }
def BHI (l : List Span) : Prop := CL Try.prog BHD O5 (AH O5) (C_clo.xs l) (AB []) (C_clo.val l) (C_clo.keep l) [(0, 4032)] []
abbrev vT a b c d:=AG a b c c d
abbrev PA a b c d e:=AG a b (SC c) d e
abbrev Fk a:=XY a 9223372036854775807
attribute [go_sem] vT PA Fk
theorem BOI (l : List Span) : (BHI l) = (And (ME 0 (CU l)) (vT (PA (TE AI 0) (TE LG (CU l)) (MB (CU l)) (Fk (CU l)) (Ab (BB (CU l)))) AI (LO l (BB (CU l))) (AC (λ i=>TI i (CU l) l i l (RV i) l l (RV i))))) := by kernel_rfl
theorem AXL : AK Try.prog uA (C_clo.spec dSs1) := XM C_clo (λ _ => BHD) [(0, 4032)] [] ATR (λ _ => by kernel_rfl) (λ _ => AD) (λ (l : List Span) h => by
 show BHI l; rw [BOI]<;> delta KY Aq BA BI CE CU AC BX CM AQ LU DH JV LG IX QT LL AE AG BF BE BD BC vT BS DR BB EM DI AI HL JZ LO ME SS OC PC TI MB TE XY XV SC WY RV PA Ab Fk; simp only [CC, eq_self, implies_true, forall_const]
 obtain ⟨h1, h2⟩ : 0 < l.length /\ l.length < 1073741824 := h
 exact ⟨h1, ⟨λ _ => h1, by omega, by omega⟩, λ _ _ => ⟨rfl, rfl⟩⟩) (λ _ => YR rfl rfl) _
def farS : Span := ⟨-100000000, 100000000⟩
def notM (c : Cht) (j : Int) : Span := bif hasN c.ns j then (ntOf c.ns j).t else farS
def Gt (c : Cht) : List Span := QR c.ms.length λ i => notM c (i : Int)
structure Sn where
 seen : Int -> Bool
 deriving Inhabited
def left (c : Cht) (seen : Int -> Bool) : Nat -> Nat
 | 0 => 0
 | k + 1 => left c seen k + bif (hasN c.ns (k : Int) && !seen (k : Int)) then 1 else 0
def nt3 (w : Dk) : Shape := { α := Sn, dflt := default, T := λ s => ⟨[(3, .own 202 2 0 w.c.ms.length), (19, .bptr 203 0)], dkK w ++ [(202, .live (.row 2 w.c.ms.length λ i => FX (bif s.seen (i : Int) then (ntOf w.c.ns (i : Int)).t else farS))), (203, .live (.miter 101 (hasN w.c.ns) w.st s.seen none))]⟩, inv := λ s => ∀ j, s.seen j = true -> hasN w.c.ns j = true, meas := λ s => left w.c s.seen w.c.ms.length, first := [(202, 2128), (203, 3064)] }
def nsIn (c : Cht) : Prop := ∀ j, hasN c.ns j = true -> 0 <= j /\ j < c.ms.length
def C_not : Ctr := { ro := [100, 101], α := Dk, xs := λ _ => [.bptr 100 0], L := λ w => dkL w, val := λ w => .d (DA (Gt w.c)), keep := λ w => dkK w, pre := λ w => [1 <= w.c.ms.length /\ w.c.ms.length <= 40 /\ nsIn w.c] }
def BJA (w : Dk) : Ann := { ann 31 [(AMS, C_rep.spec BJI)] with E := [100, 101], md := λ id => if id = 2 then some (λ k => if k = 4 then 5 else 0) else if id = 3 then some (λ k => if k = 0 then 6 else 0) else if id = 4 then some (λ k => if k = 0 then 7 else 0) else none, loops := λ id => if id = 3 then some [nt3 w] else none }
def BHB (w : Dk) : Prop := CL Try.prog (BJA w) AFJ (AH AFJ) (C_not.xs w) (AB (C_not.L w)) (C_not.val w) (C_not.keep w) [] [202]
abbrev cN:=Sn.seen
abbrev Ga a b (c:Nat->Prop) (d:Nat->Prop) e f:=HE a b c (DB a) d e f
abbrev RF a b c:=Ga a (DE a) (λ i=>EB i a) (λ i=>CH i a) b c
abbrev WZ a b c d:=YY (Uc a b) c d
abbrev MH a:=BB (HV a)
abbrev KN a b c d:=WZ a (MH b) c d
abbrev AHX a b:=EX (SW a b)
abbrev Yy a b c:=(@cond Span) a (AHX b (BU c)) farS
abbrev Zn a b:=cN a (BU b)
abbrev PE a b:=ME (MH a) b
abbrev IY a b (c:Nat->Prop) d e f g h p:=AR a b (AC c) d e f g h p
abbrev Ac:=BC 1
attribute [go_sem] cN Ga RF WZ MH KN AHX Yy Zn PE IY Ac
theorem BMM (w : Dk) : (BHB w) = (AE (CW Ac SH (AC (λ i=>KH i 1 (EM (sng (LU (Mn (Di (-100000000) 100000000)) 0)) i) (-100000000) (LU (sng (LU (Mn (Di (-100000000) 100000000)) 0)) i) 100000000)) (AF (dY w)) (TR (Dn w)) (DH (Dn w) 40)) ((@Exists Sn) (λ i=>And (AG AI (eJ w) (UF w) (TZ w) (RF (AV w) (IB w) (Tu BL (gR w) (HB w) (BT (λ j=>YI w j)) (eJ w) (AC (λ j=>JZ j (Dn w) (BA (Yy (Zn i j) w j)) (EM (Mn (Di (-100000000) 100000000)) 0) (Yy (Zn i j) w j) (LU (Mn (Di (-100000000) 100000000)) 0))) (HB w) (BT (λ j=>EU (cN i j)))))) (BT (λ j=>HL (cN i j) (DI (QW (AV w) j)))))) ((λ (f : Sn -> Prop) => ∀ (x : Sn), f x) (λ i=>BX (BT (λ j=>HL (cN i j) (DI (QW (AV w) j)))) (AN (gR w) (HB w) (BX (BT (λ j=>HL (QW (AV w) j) (DI (cN i j)))) (IY (LO (Gt (AV w)) (Dn w)) (NP (Dn w)) (λ j=>UG j (Gt (AV w)) j (BA (Yy (Zn i (BB j)) w (BB j))) (Yy (Zn i (BB j)) w (BB j))) (UF w) (TZ w) (XH w) (WJ w) (WS w) (Pb w w))) (BT (λ j=>HL (QW (AV w) j) (BX (EU (cN i j)) (AN (gR w) (HB w) (And (DQ j (Dn w)) (PE j (Dn w))) ((@Exists Sn) (λ k=>JG (AG AI (eJ w) (UF w) (TZ w) (RF (AV w) (IB w) (Tu BL (gR w) (HB w) (BT (λ l=>YI w l)) (eJ w) (AC (λ l=>KH l (Dn w) (BA (Yy (Zn k l) w l)) (KN l j (CK (SW w j)) (BA (Yy (Zn i l) w l))) (Yy (Zn k l) w l) (KN l j (BI (AHX w j)) (BI (Yy (Zn i l) w l))))) (HB w) (BT (λ l=>KY (cN k l) (or (ABS l j) (cN i l))))))) (BT (λ l=>HL (cN k l) (DI (QW (AV w) l)))) (left (AV w) (cN k) (Dn w)) (left (AV w) (cN i) (Dn w)))))))))))) := by kernel_rfl
theorem APQ (c : Cht) (s t : Int -> Bool) (h : ∀ j, s j = true -> t j = true) : ∀ k, left c t k <= left c s k
 | 0 => Nat.le_refl _
 | k + 1 => by
  have ih := APQ c s t h k
  have hk := h (k : Int)
  simp only [left]
  cases hN : hasN c.ns (k : Int) <;> cases h1 : s (k : Int) <;> cases h2 : t (k : Int) <;> simp_all <;> omega
theorem AQD (c : Cht) (s t : Int -> Bool) (h : ∀ j, s j = true -> t j = true) {j : Nat} (h0 : hasN c.ns (j : Int) = true) (h1 : s (j : Int) = false) (h2 : t (j : Int) = true) : ∀ k, j < k -> left c t k < left c s k
 | 0, hj => by omega
 | k + 1, hj => by
  by_cases e : j = k
  ·subst e
   have := APQ c s t h j
   simp only [left, h0, h1, h2]
   simp; omega
  ·have ih := AQD c s t h h0 h1 h2 k (by omega)
   have hk := h (k : Int)
   simp only [left]
   cases hN : hasN c.ns (k : Int) <;> cases h3 : s (k : Int) <;> cases h4 : t (k : Int) <;> simp_all <;> omega
theorem BRQ (w : Dk) (h : 1 <= w.c.ms.length /\ w.c.ms.length <= 40 /\ nsIn w.c) : BHB w := by
 obtain ⟨h1, h2, h3⟩ := h
 rw [BMM]<;> delta KY Aq BA BI FW EX FI CE CU AC BX CM AQ LU BU DH HD LS ER GP GA HQ HT HC HR DS GB ED Ak IX HV QT SX BT PO LL YY ABS AV LW Uc Di cN AE BG AW AG BF BE CK QU AR CN BD AF CG BC EZ Tz Tu AO CQ BS CV CY BO CR DD AL CF AM AT DM DR DZ GG BB DW AS DJ AP EY SW DC DB HW GR JD DF RY QW EM FE DE GQ AN BY KD DI MH BL XQ WZ JE HY JH AI JG XJ HL ZA JQ JZ HJ DQ QZ EB MC NF CW IB MG WB LO HB KE KC QP TR EU ME CH IY OC SI MM HE XY KN YI SH NP Ga SG lA PE NB KH XH YJ UF TY TZ Mn WJ RF WS Ac Dn UG AHX Zn Pb gR dY Yy eJ; simp only [CC, eq_self, implies_true, forall_const]
 refine ⟨⟨by omega, λ j hj => ?_, by omega, h2⟩, ⟨⟨λ _ => false⟩, ⟨λ i hi => ⟨rfl, rfl⟩, λ _ => rfl⟩, λ j hj => by cases hj⟩, λ s hs => ⟨λ hall => ⟨rng_length _ _, Nat.le_refl _, λ j hj => ?_⟩, λ k hk hsk => ⟨⟨h3 k hk, by have := h3 k hk; omega⟩, ⟨λ n => decide (n = k) || s.seen n⟩, ⟨λ i hi => ?_, λ _ => rfl⟩, λ j hj => ?_, ?_⟩⟩⟩
 ·obtain rfl : j = 0 := by omega
  exact ⟨rfl, rfl⟩
 ·have hj : j < w.c.ms.length := by simpa [Gt] using hj
  have e : s.seen (j : Int) = hasN w.c.ns (j : Int) := by
   cases hq : hasN w.c.ns (j : Int) with
   | true => exact hall _ hq
   | false =>
    cases hq2 : s.seen (j : Int) with
    | false => rfl
    | true => rw [hs _ hq2] at hq; cases hq
  unfold Gt; rw [IK _ _ _ hj, e]; exact ⟨rfl, rfl⟩
 ·have hk0 := h3 k hk
  have e : decide ((i : Int) = k) = decide (i = k.toNat) := by
   rw [Bool.eq_iff_iff, decide_eq_true_eq, decide_eq_true_eq]; omega
  simp only [e]
  by_cases hi2 : i = k.toNat
  ·have : (i : Int) = k := by omega
   rw [this]; simp [hi2]
  ·simp [hi2]
 ·simp only [Bool.or_eq_true, decide_eq_true_eq] at hj
  rcases hj with rfl | hj
  ·exact hk
  ·exact hs j hj
 ·have hk0 := h3 k hk
  have e : ((k.toNat : Nat) : Int) = k := by omega
  exact AQD w.c _ _ (λ j hj => by simp [hj]) (j := k.toNat) (by rw [e]; exact hk) (by rw [e]; exact hsk) (by rw [e]; simp) _ (by omega)
theorem BMT : AK Try.prog AFS (C_not.spec xG) := XM C_not BJA [] [202] AWH (λ _ => by kernel_rfl) (λ _ => AA BNJ AD) (λ w h => BRQ w h) (λ _ => YR rfl rfl) _
end Go.Bal
