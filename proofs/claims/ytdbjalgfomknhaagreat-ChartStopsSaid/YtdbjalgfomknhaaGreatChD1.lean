/- Package chart: times that notes allow. -/
import Derived.Test.YtdbjalgfomknhaaGreatChC
set_option linter.unusedVariables false
set_option linter.unusedSimpArgs false
namespace Go.Bal
open Go Go.Sym Go.Proofs
def dU2 : List AVal -> Option I2
 | [.d (.v (.int .u64 a)), .d (.v (.int .u64 b))] => some ⟨a, b⟩
 | _ => none
def xU2 (x : I2) : List AVal := [.d (.v (.int .u64 x.a)), .d (.v (.int .u64 x.b))]
def AYS (x : I2) : Prop := CF Try.prog (ann 51 []) AGO (AH AGO) (xU2 x) (AB []) (.tup [.d (.v (.int .u64 0)), .d (.v (.int .u64 x.b))]) [] [] []
abbrev Om:=IntKind.u64
abbrev Ir:=I2.a
abbrev xW:=@HPow.hPow Int Nat Int (@instHPow Int Nat (@instPowNat Int Int.instNatPow))
abbrev Cu:=I2.b
abbrev VO a:=MM Om a
abbrev Bb a b:=VO (Bu a b)
abbrev Wh a b:=(@HDiv.hDiv Int Int Int (@instHDiv Int Int.instDiv)) a (xW 2 b)
abbrev gB a b:=Wh a (EP b)
abbrev Hh a:=gB a 32
abbrev ADP a b:=andI Om a b
abbrev Za a:=ADP a 4294967295
abbrev Cd a b:=FY a (BE b)
abbrev Dp a:=Cd a 64
attribute [go_sem] Om Ir xW Cu VO Bb Wh gB Hh ADP Za Cd Dp
theorem BEG (x : I2) : (AYS x) = (YO (PF 32 (Dp 32)) (ADG (PF 32 (Dp 32)) (AS 0 (VO (NT (VO (NT (Bb (Hh (Ir x)) (Hh (Cu x))) (Hh (VO (NT (Bb (Hh (Ir x)) (Za (Cu x))) (Hh (Bb (Za (Ir x)) (Za (Cu x))))))))) (Hh (VO (NT (Za (VO (NT (Bb (Hh (Ir x)) (Za (Cu x))) (Hh (Bb (Za (Ir x)) (Za (Cu x))))))) (Bb (Za (Ir x)) (Hh (Cu x))))))))) (AS (Cu x) (Bb (Ir x) (Cu x))))) := by kernel_rfl
def wZ := pD dU2 (λ x => .tup [.d (.v (.int .u64 0)), .d (.v (.int .u64 x.b))]) (λ x => [x.a = 1 /\ 0 <= x.b /\ x.b <= 40])
def BRQ (x : I2) : Prop := CF Try.prog (ann 30 [(wA, wZ)]) AWY (AH AWY) (xU2 x) (AB []) (.tup [.d (.v (.int .u64 0)), .d (.v (.int .u64 x.b))]) [] [] []
theorem BWY (x : I2) : (BRQ x) = (TV (AS (Ir x) 1) (BX (Cu x)) (Xk (Cu x)) DJ (AE (Cu x))) := by kernel_rfl
theorem hU2 (xs : List AVal) (a : I2) (h : dU2 xs = some a) : xs = xU2 a := by
 unfold dU2 at h; split at h <;> cases h; rfl
theorem u64w {n : Int} (h0 : 0 <= n) (h1 : n < 18446744073709551616) : IntKind.u64.wrap n = n := by
 simp only [IntKind.wrap, IntKind.bits, IntKind.signed]
 have : n % (2 ^ 64 : Int) = n := Int.emod_eq_of_lt h0 (by omega)
 simp only [this]
 simp
theorem BDY : AK Try.prog wA wZ := Ki xU2 hU2 λ x h => Pn (A := ann 51 []) (ren := []) (fz := []) BCH (by kernel_rfl) AC (by
 show AYS x; rw [BEG]<;> delta MM AS BE FY NT EP Bu Om Ir xW Cu AD AG YO Ow ADG BX PF VO Wh ADP gB Cd Bb Dp Hh Za
 obtain ⟨a, b⟩ := x
 obtain ⟨h1, h2, h3⟩ : a = 1 /\ 0 <= b /\ b <= 40 := h
 subst h1
 obtain ⟨n, rfl⟩ := Int.eq_ofNat_of_zero_le h2
 have hn : n < 41 := by omega
 clear h2 h3
 revert hn; revert n; decide +kernel)
theorem BYP : AK Try.prog AVQ wZ := Ki xU2 hU2 λ x h => Pn (A := ann 30 [(wA, wZ)]) (ren := []) (fz := []) BMS (by kernel_rfl) (AA BDY AC) (by
 show BRQ x; rw [BWY]<;> delta AS XB FY Ir Cu AD AE BX UD DJ TV Xk; exact ⟨h, rfl, rfl⟩)
def sng (s : Span) : List Span := [s]
def zSp : Span := ⟨0, 0⟩
structure SpN where
 s : Span
 n : Nat
def C_rep : Ctr := { α := SpN, xs := λ a => [.d (DC (sng a.s)), .int a.n], val := λ a => .own 0 2 0 a.n, keep := λ a => [(0, .live (.row 2 a.n λ _ => IK a.s))], pre := λ a => [1 <= a.n /\ a.n <= 40] }
def BSF : List AVal -> Heap -> Option (SpN × List (Nat × Nat) × List Nat)
 | [y, .d n], H => match Xo y H with
  | some (l, f) => some (⟨gD l 0, (HJ n).toNat⟩, [], f)
  | none => none
 | _, _ => none
def rp8 (a : SpN) : Shape := { α := Nat, dflt := 0, T := λ k => ⟨[(7, .own 201 2 0 a.n), (8, .int k)], [(201, .live (.row 2 a.n λ i => IK (bif decide (i < k) then a.s else zSp)))]⟩, inv := λ k => 1 <= k /\ k <= a.n, meas := λ k => a.n - k, first := [(201, 7032)] }
def BRZ (a : SpN) : Ann := { ann 48 [(AVQ, wZ)] with loops := λ id => if id = 8 then some [rp8 a] else none }
def BRN (a : SpN) : Prop := CF Try.prog (BRZ a) AWX (AH AWX) (C_rep.xs a) (AB []) (C_rep.val a) (C_rep.keep a) [(0, 201)] []
abbrev ANP : Prop := (2 : Nat) = (2 : Nat)
abbrev zF (a : SpN) : Nat := (IntKind.i64.wrap (IntKind.u64.wrap (↑a.n : Int))).toNat
abbrev Z5 : Prop := (0 : Nat) = (0 : Nat)
abbrev AND (a : SpN) : Prop := a.n = zF a
abbrev AOO (a : SpN) : Nat := min (sng a.s).length (zF a)
abbrev AMO (i : Nat) (a : Nat) (a1 : SpN) : Span := bif decide (i < a) then a1.s else zSp
abbrev wF (i : Nat) (a : Nat) (a1 : SpN) : Int := (AMO i a a1).lo
abbrev ALM (i : Nat) (a : SpN) : Bool := decide (i < AOO a)
abbrev xQ (i : Nat) (a : Nat) (a1 : SpN) : Int := (AMO i a a1).hi
abbrev Z1 (a : Nat) (a1 : SpN) : Prop := (1 : Nat) <= a /\ a <= a1.n
abbrev AEM (a : Nat) (a1 : SpN) : Prop := (↑a : Int) < (↑a1.n : Int)
abbrev ADK (a : Nat) : Prop := (0 : Int) <= (↑a : Int)
abbrev ADC (a : Nat) (a1 : SpN) : Prop := (↑a : Int) <= (↑a1.n : Int)
abbrev AHV (a : Nat) : Nat := a - (0 : Nat)
abbrev kN (a : Nat) : Nat := (0 : Nat) + a
abbrev lA (a : SpN) (a1 : Nat) : Nat := a.n - a1
abbrev AHS (a : Nat) (a1 : SpN) : Nat := min (a - Int.toNat (0 : Int)) (lA a1 a)
abbrev ACW (a : Nat) (i : Nat) (a1 : SpN) : Bool := decide (kN a <= i) && decide (i < kN a + AHS a a1)
abbrev AGI (i : Nat) (a : Nat) (a1 : SpN) : Span := bif decide ((0 : Nat) + Int.toNat (0 : Int) + (i - kN a) < a) then a1.s else zSp
theorem BVU (a : SpN) : (BRN a) = ((IntKind.u64.wrap (↑(sng a.s).length : Int) = (1 : Int) /\ (0 : Int) <= IntKind.u64.wrap (↑a.n : Int) /\ IntKind.u64.wrap (↑a.n : Int) <= (40 : Int)) /\ bif bif decide ((0 : Int) > (0 :
 Int)) then true else decide (IntKind.u64.wrap (↑a.n : Int) > (9223372036854775807 : Int)) then False else ((0 : Int) <= IntKind.i64.wrap (IntKind.u64.wrap (↑a.n : Int)) /\ IntKind.i64.wrap (IntKind.u64.wrap (↑a.n : Int)) =
 IntKind.i64.wrap (IntKind.u64.wrap (↑a.n : Int)) /\ IntKind.i64.wrap (IntKind.u64.wrap (↑a.n : Int)) <= (9223372036854775807 : Int) /\ (↑(16 : Nat) : Int) * IntKind.i64.wrap (IntKind.u64.wrap (↑a.n : Int)) <=
 (281474976710656 : Int)) /\ ((True /\ ((0 : Nat) < (sng a.s).length -> ANP)) /\ (zF a).le (zF a)) /\ (∃ (a_1 : Nat), (Z5 /\ AND a /\ (↑a_1 : Int) = (↑(AOO a) : Int) /\ AND a /\ ∀ (i : Nat), i < a.n
 -> (wF i a_1 a = bif ALM i a then (gD (sng a.s) i).lo else (0 : Int)) /\ xQ i a_1 a = bif ALM i a then (gD (sng a.s) i).hi else (0 : Int)) /\ Z1 a_1 a) /\ ∀ (a_1 : Nat), Z1 a_1 a -> bif decide
 (AEM a_1 a) then ((ADK a_1 /\ ADC a_1 a /\ (↑a.n : Int) <= (↑a.n : Int) /\ ((↑a_1 : Int) = (0 : Int) ∨ AEM a_1 a)) /\ ((0 : Int) <= (0 : Int) /\ ADK a_1 /\ ADC a_1 a /\ ((0 : Int) = (0 : Int) ∨ (0 :
 Int) < (↑a_1 : Int))) /\ ((0 : Nat) + AHV a_1 <= a.n /\ ((0 : Nat) < AHV a_1 -> ANP)) /\ (kN a_1 + lA a a_1).le a.n) /\ ∃ (a_3 : Nat), (Z5 /\ a.n = a.n /\ (↑a_3 : Int) = IntKind.i64.wrap ((↑a_1 :
 Int) + (↑(AHS a_1 a) : Int)) /\ a.n = a.n /\ ∀ (i : Nat), i < a.n -> (wF i a_3 a = bif ACW a_1 i a then (AGI i a_1 a).lo else wF i a_1 a) /\ xQ i a_3 a = bif ACW a_1 i a then (AGI i
 a_1 a).hi else xQ i a_1 a) /\ Z1 a_3 a /\ lA a a_3 < lA a a_1 else Z5 /\ a.n = a.n /\ a.n = a.n /\ ∀ (i : Nat), i < a.n -> a.s.lo = wF i a_1 a /\ a.s.hi = xQ i a_1 a) := by kernel_rfl
theorem CAX (a : SpN) (h : 1 <= a.n /\ a.n <= 40) : BRN a := by
 obtain ⟨h1, h2⟩ := h
 have e1 : IntKind.u64.wrap (a.n : Int) = a.n := u64w (by omega) (by omega)
 have e2 : IntKind.i64.wrap (a.n : Int) = a.n := TC (by omega) (by omega)
 have e3 : (sng a.s).length = 1 := rfl
 rw [BVU]; delta ANP zF Z5 AND AOO AMO wF ALM xQ Z1 AEM ADK ADC AHV kN lA AHS ACW AGI; simp only [CC, eq_self, implies_true, forall_const, e1, e2, e3, Nat.sub_zero, Int.toNat_zero]
 refine ⟨⟨rfl, by omega, by omega⟩, λ h => ?_, λ _ => ⟨⟨by omega, by omega, by omega⟩, by omega, ⟨1, ⟨by omega, λ i hi => ?_⟩, by omega, by omega⟩, λ k hk => ⟨λ hlt => ⟨⟨by omega, by omega, by omega⟩, min (2 * k) a.n, ⟨?_, λ i hi => ?_⟩, by omega, by omega⟩, λ hge i hi => ?_⟩⟩⟩
 ·simp at h; omega
 ·by_cases h : i < 1
  ·obtain rfl : i = 0 := by omega
   have : 0 < min 1 a.n := by omega
   simp [this]; exact ⟨rfl, rfl⟩
  ·have : ¬ i < min 1 a.n := by omega
   simp [h, this, zSp]
 ·rw [TC (by omega) (by omega)]; omega
 ·have e : (decide (k <= i) && decide (i < k + min k (a.n - k))) = (decide (k <= i) && decide (i < min (2 * k) a.n)) := by
   congr 1; rw [decide_eq_decide]; omega
  rw [e]
  by_cases q1 : k <= i
  ·by_cases q2 : i < min (2 * k) a.n
   ·have q3 : i - k < k := by omega
    simp [q1, q2, q3]
   ·have q4 : ¬ i < k := by omega
    simp [q1, q2, q4]
  ·have q2 : i < min (2 * k) a.n := by omega
   have q3 : i < k := by omega
   simp [q1, q2, q3]
 ·have : i < k := by omega
  simp [this]
theorem BYT : AK Try.prog AVT (C_rep.spec BSF) := VV C_rep BRZ [(0, 201)] [] BPG (λ _ => by kernel_rfl) (λ _ => AA BYP AC) (λ a h => CAX a h) (λ _ => WY rfl rfl) _
def dSs1 : List AVal -> Heap -> Option (List Span × List (Nat × Nat) × List Nat)
 | [y], H => match Xo y H with
  | some (l, f) => some (l, [], f)
  | none => none
 | _, _ => none
def C_clo : Ctr := { α := List Span, xs := λ l => [.d (DC l)], val := λ l => .own 0 2 0 l.length, keep := λ l => [(0, .live (rowS l))], pre := λ l => [0 < l.length /\ l.length < 1073741824] }
def BSP : Ann := { ann 8 [] with mt := λ id => id == 3 }
def BTX (l : List Span) : Prop := CF Try.prog BSP AIA (AH AIA) (C_clo.xs l) (AB []) (C_clo.val l) (C_clo.keep l) [(0, 4032)] []
abbrev Wq a b c d:=AG a b c c d
abbrev kU a b c:=Wq a AT b c
abbrev Mv a b (c:Nat->Prop):=kU a b (AF c)
abbrev RI a b c d e:=AG a b c d (UO e)
attribute [go_sem] Wq kU Mv RI
theorem BXI (l : List Span) : (BTX l) = (And (JX 0 (EL l)) (Mv (RI (VY AT 0) (VY FL (EL l)) (WT (OQ (EL l))) (TP (EL l) 9223372036854775807) (Ho (CM (EL l)) 16)) (OW l (CM (EL l))) (λ i=>WH i l (KA l i) l (ZP i)))) := by kernel_rfl
theorem BDN : AK Try.prog yO (C_clo.spec dSs1) := VV C_clo (λ _ => BSP) [(0, 4032)] [] BBL (λ _ => by kernel_rfl) (λ _ => AC) (λ (l : List Span) h => by
 show BTX l; rw [BXI]<;> delta JH Hi BI BF BY EL AF CN CO AS KA EU LS FL LC RX GZ Ho AD AG AZ AX BM Wq AW BA BO BJ CM OJ CS AT HO OW Sf MX WR JX OQ VY UO WH RI TP WT ZP kU Mv; simp only [CC, eq_self, implies_true, forall_const]
 obtain ⟨h1, h2⟩ : 0 < l.length /\ l.length < 1073741824 := h
 exact ⟨h1, ⟨λ _ => h1, by omega, by omega⟩, λ _ _ => ⟨rfl, rfl⟩⟩) (λ _ => WY rfl rfl) _
def farS : Span := ⟨-100000000, 100000000⟩
def Xj (c : Cht) (j : Int) : Span := bif hasN c.ns j then (ntOf c.ns j).t else farS
def Sz (c : Cht) : List Span := ME c.ms.length λ i => Xj c (i : Int)
structure Sn where
 seen : Int -> Bool
 deriving Inhabited
def left (c : Cht) (seen : Int -> Bool) : Nat -> Nat
 | 0 => 0
 | k + 1 => left c seen k + bif (hasN c.ns (k : Int) && !seen (k : Int)) then 1 else 0
def nt3 (w : Dk) : Shape := { α := Sn, dflt := default, T := λ s => ⟨[(3, .own 202 2 0 w.c.ms.length), (19, .bptr 203 0)], dkK w ++ [(202, .live (.row 2 w.c.ms.length λ i => IK (bif s.seen (i : Int) then (ntOf w.c.ns (i : Int)).t else farS))), (203, .live (.miter 101 (hasN w.c.ns) w.st s.seen none))]⟩, inv := λ s => ∀ j, s.seen j = true -> hasN w.c.ns j = true, meas := λ s => left w.c s.seen w.c.ms.length, first := [(202, 2128), (203, 3064)] }
def nsIn (c : Cht) : Prop := ∀ j, hasN c.ns j = true -> 0 <= j /\ j < c.ms.length
def C_not : Ctr := { ro := [100, 101], α := Dk, xs := λ _ => [.bptr 100 0], L := λ w => dkL w, val := λ w => .d (DC (Sz w.c)), keep := λ w => dkK w, pre := λ w => [1 <= w.c.ms.length /\ w.c.ms.length <= 40 /\ nsIn w.c] }
def BRP (w : Dk) : Ann := { ann 31 [(AVT, C_rep.spec BSF)] with E := [100, 101], md := λ id => if id = 2 then some (λ k => if k = 4 then 5 else 0) else if id = 3 then some (λ k => if k = 0 then 6 else 0) else if id = 4 then some (λ k => if k = 0 then 7 else 0) else none, loops := λ id => if id = 3 then some [nt3 w] else none }
def BRV (w : Dk) : Prop := CF Try.prog (BRP w) AQD (AH AQD) (C_not.xs w) (AB (C_not.L w)) (C_not.val w) (C_not.keep w) [] [202]
abbrev yW:=@cond Span
abbrev cN:=Sn.seen
abbrev Sk:=farS
abbrev Up:=Sz
abbrev Ch a b (c:Nat->Prop) d e:=LM a a b c (DR a) (λ i=>EI i a) d e
abbrev ZO a b c:=Ch a (DX a) (λ i=>EO i a) b c
abbrev eC a b c d e f g:=AG a b c d (ZO e f g)
abbrev SY a b c d:=Ai (cQ a b) c d
abbrev LA a:=CM (EP a)
abbrev RS a b c d:=SY a (LA b) c d
abbrev ABI a b:=NU (AP a) b
abbrev hX a b:=ABI a (BE b)
abbrev iH a b:=cN a (BE b)
abbrev mD a:=EK (λ i=>OE a i)
abbrev KQ a b c:=RV (BX a) a b c
abbrev QI a b:=JX (LA a) b
abbrev GU a b (c:Nat->Prop) d e f g h p:=AR a b (AF c) d e f g h p
attribute [go_sem] yW cN Sk Up Ch ZO eC SY LA RS ABI hX iH mD KQ QI GU
theorem BXS (w : Dk) : (BRV w) = (CE (BM 1) (AG RD (AF (λ i=>BA i 1 (BO (KA (sng (KA (Eo (Vw (-100000000) 100000000)) 0)) i) (-100000000)) (AZ (KA (sng (KA (Eo (Vw (-100000000) 100000000)) 0)) i) 100000000))) (Yr (AP w)) (KT (Nz w)) (EU (Nz w) 40)) ((@Exists Sn) (λ i=>EG AT (fS w) (QG w) (QL w) (ZO (AP w) (IY w) (Oy BQ (fL w) (GT w) (mD (AP w)) (fS w) (AF (λ j=>FQ j (AP w) (BJ (yW (iH i j) (hX w j) Sk) (KA (Eo (Vw (-100000000) 100000000)) 0)) (AW (yW (iH i j) (hX w j) Sk) (KA (Eo (Vw (-100000000) 100000000)) 0)))) (GT w) (EK (λ j=>GR (cN i j))))) (EK (λ j=>HO (cN i j) (CS (PI (AP w) j)))))) ((λ (f : Sn -> Prop) => ∀ (x : Sn), f x) (λ i=>CN (EK (λ j=>HO (cN i j) (CS (PI (AP w) j)))) (And (fL w) (AD (GT w) (CN (EK (λ j=>HO (PI (AP w) j) (CS (cN i j)))) (GU (HD (EL (Up (AP w))) (AP w)) (OF (Nz w)) (λ j=>NQ j (Up (AP w)) j (yW (iH i (CM j)) (hX w (CM j)) Sk)) (QG w) (QL w) (SS w) (TO w) (TR w) (Qz w w))) (EK (λ j=>HO (PI (AP w) j) (CN (GR (cN i j)) (And (fL w) (AD (GT w) (KQ j (Nz w) (QI j (Nz w))) ((@Exists Sn) (λ k=>AD (eC AT (fS w) (QG w) (QL w) (AP w) (IY w) (Oy BQ (fL w) (GT w) (mD (AP w)) (fS w) (AF (λ l=>FQ l (AP w) (BO (yW (iH k l) (hX w l) Sk) (RS l j (BI (ABI w j)) (BI (yW (iH i l) (hX w l) Sk)))) (AZ (yW (iH k l) (hX w l) Sk) (RS l j (BF (ABI w j)) (BF (yW (iH i l) (hX w l) Sk)))))) (GT w) (EK (λ l=>JH (cN k l) (or (AJV l j) (cN i l)))))) (EK (λ l=>HO (cN k l) (CS (PI (AP w) l)))) (CO (left (AP w) (cN k) (Nz w)) (left (AP w) (cN i) (Nz w))))))))))))))) := by kernel_rfl
theorem AZO (c : Cht) (s t : Int -> Bool) (h : ∀ j, s j = true -> t j = true) : ∀ k, left c t k <= left c s k
 | 0 => Nat.le_refl _
 | k + 1 => by
  have ih := AZO c s t h k
  have hk := h (k : Int)
  simp only [left]
  cases hN : hasN c.ns (k : Int) <;> cases h1 : s (k : Int) <;> cases h2 : t (k : Int) <;> simp_all <;> omega
theorem AZB (c : Cht) (s t : Int -> Bool) (h : ∀ j, s j = true -> t j = true) {j : Nat} (h0 : hasN c.ns (j : Int) = true) (h1 : s (j : Int) = false) (h2 : t (j : Int) = true) : ∀ k, j < k -> left c t k < left c s k
 | 0, hj => by omega
 | k + 1, hj => by
  by_cases e : j = k
  ·subst e
   have := AZO c s t h j
   simp only [left, h0, h1, h2]
   simp; omega
  ·have ih := AZB c s t h h0 h1 h2 k (by omega)
   have hk := h (k : Int)
   simp only [left]
   cases hN : hasN c.ns (k : Int) <;> cases h3 : s (k : Int) <;> cases h4 : t (k : Int) <;> simp_all <;> omega
theorem CAR (w : Dk) (h : 1 <= w.c.ms.length /\ w.c.ms.length <= 40 /\ nsIn w.c) : BRV w := by
 obtain ⟨h1, h2, h3⟩ := h
 rw [BXS]<;> delta JH Hi BI BF EN EB EA BY EL AF CN CO AS KA BE EU FY MN ET GW FK HV IB HK GV FU HC DV FW EY Oo LC EP RX QU EK OK GZ Ai AJV AP LI cQ Vw yW cN Sk Up AD CI AU AG AZ AX AE BM GQ Sb AW BL BD AO AR DD BA BK NC BO BJ CX BW BV AJ AQ NU AV FC Oy CK AN AL LH HG FX FQ AM HE DK ID DR CM BX CG OX BC PI HS DX CE CW BQ LA OJ CS XE WP PX HQ KF AT HR Fa HO GT NB EO HD VM IY MP PO RV SY GU GR MX EI OE LM PR JX KT jD EG Ch RD QL TA TP QG mD SS QI KQ LR OF ZO TO TR eC RS Eo NQ Nz ABI hX Qz iH fL Yr fS; simp only [CC, eq_self, implies_true, forall_const]
 refine ⟨⟨by omega, λ j hj => ?_, by omega, h2⟩, ⟨⟨λ _ => false⟩, ⟨λ i hi => ⟨rfl, rfl⟩, λ _ => rfl⟩, λ j hj => by cases hj⟩, λ s hs => ⟨λ hall => ⟨rng_length _ _, Nat.le_refl _, λ j hj => ?_⟩, λ k hk hsk => ⟨⟨h3 k hk, by have := h3 k hk; omega⟩, ⟨λ n => decide (n = k) || s.seen n⟩, ⟨λ i hi => ?_, λ _ => rfl⟩, λ j hj => ?_, ?_⟩⟩⟩
 ·obtain rfl : j = 0 := by omega
  exact ⟨rfl, rfl⟩
 ·have hj : j < w.c.ms.length := by simpa [Sz] using hj
  have e : s.seen (j : Int) = hasN w.c.ns (j : Int) := by
   cases hq : hasN w.c.ns (j : Int) with
   | true => exact hall _ hq
   | false =>
    cases hq2 : s.seen (j : Int) with
    | false => rfl
    | true => rw [hs _ hq2] at hq; cases hq
  unfold Sz; rw [KL _ _ _ hj, e]; exact ⟨rfl, rfl⟩
 ·have hk0 := h3 k hk
  have e : decide ((i : Int) = k) = decide (i = k.toNat) := by
   rw [Bool.eq_iff_iff, decide_eq_true_eq, decide_eq_true_eq]; omega
  simp only [e]
  by_cases hi2 : i = k.toNat
  ·have : (i : Int) = k := by omega
   rw [this]; simp [hi2]
  ·simp [hi2]
 ·simp only [Bool.or_eq_true, decide_eq_true_eq] at hj
  rcases hj with rfl | hj
  ·exact hk
  ·exact hs j hj
 ·have hk0 := h3 k hk
  have e : ((k.toNat : Nat) : Int) = k := by omega
  exact AZB w.c _ _ (λ j hj => by simp [hj]) (j := k.toNat) (by rw [e]; exact hk) (by rw [e]; exact hsk) (by rw [e]; simp) _ (by omega)
theorem BXE : AK Try.prog AOB (C_not.spec T1) := VV C_not BRP [] [202] BLJ (λ _ => by kernel_rfl) (λ _ => AA BYT AC) (λ w h => CAR w h) (λ _ => WY rfl rfl) _
end Go.Bal
