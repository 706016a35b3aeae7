/- Package chart: times that notes allow. -/
import Derived.Test.YtdbjalgfomknhaaGreatChC
set_option linter.unusedVariables false
set_option linter.unusedSimpArgs false
namespace Go.Bal
open Go Go.Sym Go.Proofs
def dU2 : List AVal -> Option I2
 | [.d (.v (.int .u64 a)), .d (.v (.int .u64 b))] => some ⟨a, b⟩
 | _ => none
def xU2 (x : I2) : List AVal := [.d (.v (.int .u64 x.a)), .d (.v (.int .u64 x.b))]
def AXO (x : I2) : Prop := CH Try.prog (ann 51 []) AEA (AH AEA) (xU2 x) (AB []) (.tup [.d (.v (.int .u64 0)), .d (.v (.int .u64 x.b))]) [] [] []
abbrev Kb:=I2.a
abbrev AID:=@HPow.hPow Int Nat Int (@instHPow Int Nat (@instPowNat Int Int.instNatPow))
abbrev Ej:=I2.b
abbrev Bv a:=MM IntKind.u64 a
abbrev iG a b:=Bv (Ri a b)
abbrev bJ a b:=(@HDiv.hDiv Int Int Int (@instHDiv Int Int.instDiv)) a (AID 2 b)
abbrev U6 a b:=bJ a (FY b)
abbrev Ic a:=U6 a 32
abbrev aQ a:=andI IntKind.u64 a 4294967295
abbrev Tc a b:=Se a (Lz b 64)
attribute [go_sem] Kb AID Ej Bv iG bJ U6 Ic aQ Tc
theorem BAF (x : I2) : (AXO x) = (QF (Tc 32 32) (lT (Tc 32 32) (AR 0 (Bv (NL (Bv (NL (iG (Ic (Kb x)) (Ic (Ej x))) (Ic (Bv (NL (iG (Ic (Kb x)) (aQ (Ej x))) (Ic (iG (aQ (Kb x)) (aQ (Ej x))))))))) (Ic (Bv (NL (aQ (Bv (NL (iG (Ic (Kb x)) (aQ (Ej x))) (Ic (iG (aQ (Kb x)) (aQ (Ej x))))))) (iG (aQ (Kb x)) (Ic (Ej x))))))))) (AR (Ej x) (iG (Kb x) (Ej x))))) := by kernel_rfl
def xE := pD dU2 (λ x => .tup [.d (.v (.int .u64 0)), .d (.v (.int .u64 x.b))]) (λ x => [x.a = 1 /\ 0 <= x.b /\ x.b <= 40])
def BPU (x : I2) : Prop := CH Try.prog (ann 30 [(wS, xE)]) AQW (AH AQW) (xU2 x) (AB []) (.tup [.d (.v (.int .u64 0)), .d (.v (.int .u64 x.b))]) [] [] []
abbrev Pn a:=AR a 1
attribute [go_sem] Pn
theorem BTJ (x : I2) : (BPU x) = (HU (Pn (Kb x)) (CN (Ej x)) (Wd (Ej x)) BQ (AG (Ej x))) := by kernel_rfl
theorem hU2 (xs : List AVal) (a : I2) (h : dU2 xs = some a) : xs = xU2 a := by
 unfold dU2 at h; split at h <;> cases h; rfl
theorem u64w {n : Int} (h0 : 0 <= n) (h1 : n < 18446744073709551616) : IntKind.u64.wrap n = n := by
 simp only [IntKind.wrap, IntKind.bits, IntKind.signed]
 have : n % (2 ^ 64 : Int) = n := Int.emod_eq_of_lt h0 (by omega)
 simp only [this]
 simp
theorem BDN : AJ Try.prog wS xE := Kr xU2 hU2 λ x h => Hp (A := ann 51 []) (ren := []) (fz := []) AXV (by kernel_rfl) AC (by
 show AXO x; rw [BAF]<;> delta MM AR BZ HO NL FY Ri Kb AID Ej AE AF XG QF lT CN bJ Bv Lz U6 Se Ic Tc iG aQ
 obtain ⟨a, b⟩ := x
 obtain ⟨h1, h2, h3⟩ : a = 1 /\ 0 <= b /\ b <= 40 := h
 subst h1
 obtain ⟨n, rfl⟩ := Int.eq_ofNat_of_zero_le h2
 have hn : n < 41 := by omega
 clear h2 h3
 revert hn; revert n; decide +kernel)
theorem BTT : AJ Try.prog ARP xE := Kr xU2 hU2 λ x h => Hp (A := ann 30 [(wS, xE)]) (ren := []) (fz := []) BMG (by kernel_rfl) (AA BDN AC) (by
 show BPU x; rw [BTJ]<;> delta AR SC HO Kb Ej AE AG CN ML BQ HU Wd Pn; exact ⟨h, rfl, rfl⟩)
def sng (s : Span) : List Span := [s]
def zSp : Span := ⟨0, 0⟩
structure SpN where
 s : Span
 n : Nat
def C_rep : Ctr := { α := SpN, xs := λ a => [.d (DE (sng a.s)), .int a.n], val := λ a => .own 0 2 0 a.n, keep := λ a => [(0, .live (.row 2 a.n λ _ => IL a.s))], pre := λ a => [1 <= a.n /\ a.n <= 40] }
def BQE : List AVal -> Heap -> Option (SpN × List (Nat × Nat) × List Nat)
 | [y, .d n], H => match Wv y H with
  | some (l, f) => some (⟨gD l 0, (HK n).toNat⟩, [], f)
  | none => none
 | _, _ => none
def rp8 (a : SpN) : Shape := { α := Nat, dflt := 0, T := λ k => ⟨[(7, .own 201 2 0 a.n), (8, .int k)], [(201, .live (.row 2 a.n λ i => IL (bif decide (i < k) then a.s else zSp)))]⟩, inv := λ k => 1 <= k /\ k <= a.n, meas := λ k => a.n - k, first := [(201, 7032)] }
def BPQ (a : SpN) : Ann := { ann 48 [(ARP, xE)] with loops := λ id => if id = 8 then some [rp8 a] else none }
def BNZ (a : SpN) : Prop := CH Try.prog (BPQ a) ATD (AH ATD) (C_rep.xs a) (AB []) (C_rep.val a) (C_rep.keep a) [(0, 201)] []
abbrev AJC : Prop := (2 : Nat) = (2 : Nat)
abbrev wY (a : SpN) : Nat := (IntKind.i64.wrap (IntKind.u64.wrap (↑a.n : Int))).toNat
abbrev AAP : Prop := (0 : Nat) = (0 : Nat)
abbrev AMH (a : SpN) : Prop := a.n = wY a
abbrev AIT (a : SpN) : Nat := min (sng a.s).length (wY a)
abbrev AMA (i : Nat) (a : Nat) (a1 : SpN) : Span := bif decide (i < a) then a1.s else zSp
abbrev yG (i : Nat) (a : Nat) (a1 : SpN) : Int := (AMA i a a1).lo
abbrev AJP (i : Nat) (a : SpN) : Bool := decide (i < AIT a)
abbrev xR (i : Nat) (a : Nat) (a1 : SpN) : Int := (AMA i a a1).hi
abbrev AAF (a : Nat) (a1 : SpN) : Prop := (1 : Nat) <= a /\ a <= a1.n
abbrev ABX (a : Nat) (a1 : SpN) : Prop := (↑a : Int) < (↑a1.n : Int)
abbrev ACP (a : Nat) : Prop := (0 : Int) <= (↑a : Int)
abbrev AEX (a : Nat) (a1 : SpN) : Prop := (↑a : Int) <= (↑a1.n : Int)
abbrev AEK (a : Nat) : Nat := a - (0 : Nat)
abbrev oH (a : Nat) : Nat := (0 : Nat) + a
abbrev nV (a : SpN) (a1 : Nat) : Nat := a.n - a1
abbrev AET (a : Nat) (a1 : SpN) : Nat := min (a - Int.toNat (0 : Int)) (nV a1 a)
abbrev AFR (a : Nat) (i : Nat) (a1 : SpN) : Bool := decide (oH a <= i) && decide (i < oH a + AET a a1)
abbrev ACJ (i : Nat) (a : Nat) (a1 : SpN) : Span := bif decide ((0 : Nat) + Int.toNat (0 : Int) + (i - oH a) < a) then a1.s else zSp
theorem BTD (a : SpN) : (BNZ a) = ((IntKind.u64.wrap (↑(sng a.s).length : Int) = (1 : Int) /\ (0 : Int) <= IntKind.u64.wrap (↑a.n : Int) /\ IntKind.u64.wrap (↑a.n : Int) <= (40 : Int)) /\ bif bif decide ((0 : Int) > (0 :
 Int)) then true else decide (IntKind.u64.wrap (↑a.n : Int) > (9223372036854775807 : Int)) then False else ((0 : Int) <= IntKind.i64.wrap (IntKind.u64.wrap (↑a.n : Int)) /\ IntKind.i64.wrap (IntKind.u64.wrap (↑a.n : Int)) =
 IntKind.i64.wrap (IntKind.u64.wrap (↑a.n : Int)) /\ IntKind.i64.wrap (IntKind.u64.wrap (↑a.n : Int)) <= (9223372036854775807 : Int) /\ (↑(16 : Nat) : Int) * IntKind.i64.wrap (IntKind.u64.wrap (↑a.n : Int)) <=
 (281474976710656 : Int)) /\ ((True /\ ((0 : Nat) < (sng a.s).length -> AJC)) /\ (wY a).le (wY a)) /\ (∃ (a_1 : Nat), (AAP /\ AMH a /\ (↑a_1 : Int) = (↑(AIT a) : Int) /\ AMH a /\ ∀ (i : Nat), i < a.n
 -> (yG i a_1 a = bif AJP i a then (gD (sng a.s) i).lo else (0 : Int)) /\ xR i a_1 a = bif AJP i a then (gD (sng a.s) i).hi else (0 : Int)) /\ AAF a_1 a) /\ ∀ (a_1 : Nat), AAF a_1 a -> bif decide
 (ABX a_1 a) then ((ACP a_1 /\ AEX a_1 a /\ (↑a.n : Int) <= (↑a.n : Int) /\ ((↑a_1 : Int) = (0 : Int) ∨ ABX a_1 a)) /\ ((0 : Int) <= (0 : Int) /\ ACP a_1 /\ AEX a_1 a /\ ((0 : Int) = (0 : Int) ∨ (0 :
 Int) < (↑a_1 : Int))) /\ ((0 : Nat) + AEK a_1 <= a.n /\ ((0 : Nat) < AEK a_1 -> AJC)) /\ (oH a_1 + nV a a_1).le a.n) /\ ∃ (a_3 : Nat), (AAP /\ a.n = a.n /\ (↑a_3 : Int) = IntKind.i64.wrap ((↑a_1 :
 Int) + (↑(AET a_1 a) : Int)) /\ a.n = a.n /\ ∀ (i : Nat), i < a.n -> (yG i a_3 a = bif AFR a_1 i a then (ACJ i a_1 a).lo else yG i a_1 a) /\ xR i a_3 a = bif AFR a_1 i a then (ACJ i
 a_1 a).hi else xR i a_1 a) /\ AAF a_3 a /\ nV a a_3 < nV a a_1 else AAP /\ a.n = a.n /\ a.n = a.n /\ ∀ (i : Nat), i < a.n -> a.s.lo = yG i a_1 a /\ a.s.hi = xR i a_1 a) := by kernel_rfl
theorem BXP (a : SpN) (h : 1 <= a.n /\ a.n <= 40) : BNZ a := by
 obtain ⟨h1, h2⟩ := h
 have e1 : IntKind.u64.wrap (a.n : Int) = a.n := u64w (by omega) (by omega)
 have e2 : IntKind.i64.wrap (a.n : Int) = a.n := Bc (by omega) (by omega)
 have e3 : (sng a.s).length = 1 := rfl
 rw [BTD]; delta AJC wY AAP AMH AIT AMA yG AJP xR AAF ABX ACP AEX AEK oH nV AET AFR ACJ; simp only [CC, eq_self, implies_true, forall_const, e1, e2, e3, Nat.sub_zero, Int.toNat_zero]
 refine ⟨⟨rfl, by omega, by omega⟩, λ h => ?_, λ _ => ⟨⟨by omega, by omega, by omega⟩, by omega, ⟨1, ⟨by omega, λ i hi => ?_⟩, by omega, by omega⟩, λ k hk => ⟨λ hlt => ⟨⟨by omega, by omega, by omega⟩, min (2 * k) a.n, ⟨?_, λ i hi => ?_⟩, by omega, by omega⟩, λ hge i hi => ?_⟩⟩⟩
 ·simp at h; omega
 ·by_cases h : i < 1
  ·obtain rfl : i = 0 := by omega
   have : 0 < min 1 a.n := by omega
   simp [this]; exact ⟨rfl, rfl⟩
  ·have : ¬ i < min 1 a.n := by omega
   simp [h, this, zSp]
 ·rw [Bc (by omega) (by omega)]; omega
 ·have e : (decide (k <= i) && decide (i < k + min k (a.n - k))) = (decide (k <= i) && decide (i < min (2 * k) a.n)) := by
   congr 1; rw [decide_eq_decide]; omega
  rw [e]
  by_cases q1 : k <= i
  ·by_cases q2 : i < min (2 * k) a.n
   ·have q3 : i - k < k := by omega
    simp [q1, q2, q3]
   ·have q4 : ¬ i < k := by omega
    simp [q1, q2, q4]
  ·have q2 : i < min (2 * k) a.n := by omega
   have q3 : i < k := by omega
   simp [q1, q2, q3]
 ·have : i < k := by omega
  simp [this]
theorem BRM : AJ Try.prog ASE (C_rep.spec BQE) := XP C_rep BPQ [(0, 201)] [] BLY (λ _ => by kernel_rfl) (λ _ => AA BTT AC) (λ a h => BXP a h) (λ _ => YS rfl rfl) _
def dSs1 : List AVal -> Heap -> Option (List Span × List (Nat × Nat) × List Nat)
 | [y], H => match Wv y H with
  | some (l, f) => some (l, [], f)
  | none => none
 | _, _ => none
def C_clo : Ctr := { α := List Span, xs := λ l => [.d (DE l)], val := λ l => .own 0 2 0 l.length, keep := λ l => [(0, .live (rowS l))], pre := λ l => [0 < l.length /\ l.length < 1073741824] }
def BPN : Ann := { ann 8 [] with mt := λ id => id == 3 }
def BPL (l : List Span) : Prop := CH Try.prog BPN ADR (AH ADR) (C_clo.xs l) (AB []) (C_clo.val l) (C_clo.keep l) [(0, 4032)] []
abbrev jW a b c d:=AF a b c c d
abbrev Yz a b c:=jW a AI b c
abbrev Wu a b (c:Nat->Prop):=Yz a b (AD c)
abbrev RE a b c d e:=AF a b c d (PM e)
abbrev Hz a:=SN (NB a)
abbrev YQ:=BC 2
attribute [go_sem] jW Yz Wu RE Hz YQ
theorem BUW (l : List Span) : (BPL l) = (And (PI 0 (ED l)) (Wu (RE (ZM AI YQ) (Es IH (ED l)) (Hz (ED l)) (QK (ED l) 9223372036854775807) (En (BV (ED l)) 16)) (JU l (BV (ED l))) (λ i=>PN i l l (ZE i)))) := by kernel_rfl
theorem AQY : AJ Try.prog yI (C_clo.spec dSs1) := XP C_clo (λ _ => BPN) [(0, 4032)] [] AZH (λ _ => by kernel_rfl) (λ _ => AC) (λ (l : List Span) h => by
 show BPL l; rw [BUW]<;> delta KH ZR BG BJ BW ED AD BU CL AR GK DJ LO IH JL QC KI En AE AF AY AU BC jW AX BH BP BN BV AI CK JY HF LI JU PI EY PN NB YU PM QK Es SN RE ZM YQ Yz Wu ZE Hz; simp only [CC, eq_self, implies_true, forall_const]
 obtain ⟨h1, h2⟩ : 0 < l.length /\ l.length < 1073741824 := h
 exact ⟨h1, ⟨λ _ => h1, by omega, by omega⟩, λ _ _ => ⟨rfl, rfl⟩⟩) (λ _ => YS rfl rfl) _
def farS : Span := ⟨-100000000, 100000000⟩
def S8 (c : Cht) (j : Int) : Span := bif hasN c.ns j then (ntOf c.ns j).t else farS
def XD (c : Cht) : List Span := IK c.ms.length λ i => S8 c (i : Int)
structure Sn where
 seen : Int -> Bool
 deriving Inhabited
def left (c : Cht) (seen : Int -> Bool) : Nat -> Nat
 | 0 => 0
 | k + 1 => left c seen k + bif (hasN c.ns (k : Int) && !seen (k : Int)) then 1 else 0
def nt3 (w : Dk) : Shape := { α := Sn, dflt := default, T := λ s => ⟨[(3, .own 202 2 0 w.c.ms.length), (19, .bptr 203 0)], dkK w ++ [(202, .live (.row 2 w.c.ms.length λ i => IL (bif s.seen (i : Int) then (ntOf w.c.ns (i : Int)).t else farS))), (203, .live (.miter 101 (hasN w.c.ns) w.st s.seen none))]⟩, inv := λ s => ∀ j, s.seen j = true -> hasN w.c.ns j = true, meas := λ s => left w.c s.seen w.c.ms.length, first := [(202, 2128), (203, 3064)] }
def nsIn (c : Cht) : Prop := ∀ j, hasN c.ns j = true -> 0 <= j /\ j < c.ms.length
def C_not : Ctr := { ro := [100, 101], α := Dk, xs := λ _ => [.bptr 100 0], L := λ w => dkL w, val := λ w => .d (DE (XD w.c)), keep := λ w => dkK w, pre := λ w => [1 <= w.c.ms.length /\ w.c.ms.length <= 40 /\ nsIn w.c] }
def BQJ (w : Dk) : Ann := { ann 31 [(ASE, C_rep.spec BQE)] with E := [100, 101], md := λ id => if id = 2 then some (λ k => if k = 4 then 5 else 0) else if id = 3 then some (λ k => if k = 0 then 6 else 0) else if id = 4 then some (λ k => if k = 0 then 7 else 0) else none, loops := λ id => if id = 3 then some [nt3 w] else none }
def BNN (w : Dk) : Prop := CH Try.prog (BQJ w) AMD (AH AMD) (C_not.xs w) (AB (C_not.L w)) (C_not.val w) (C_not.keep w) [] [202]
abbrev yA:=@cond Span
abbrev eW:=Sn.seen
abbrev Wo:=farS
abbrev Fi a b c d (e:Nat->Prop) f g:=MD a b (JS c) (CG d) e f g
abbrev Ca a b c d:=YM (Wj a b) c d
abbrev UU a:=BV (FY a)
abbrev JJ a b c d:=Ca a (UU b) c d
abbrev AFF a b:=QX (AL a) b
abbrev fY a b:=AFF a (BZ b)
abbrev jK a b:=eW a (BZ b)
abbrev NW a b:=PI (UU a) b
abbrev gF a:=XD (AL a)
abbrev Am:=BC 1
attribute [go_sem] yA eW Wo Fi Ca UU JJ AFF fY jK NW gF Am
theorem BTU (w : Dk) : (BNN w) = (AE (EW Am MG (AD (λ i=>VK i 1 (GK (sng (GK (Bb (Cm (-100000000) 100000000)) 0)) i) (-100000000) 100000000)) (WW (AL w)) (PH (Pu w)) (DJ (Pu w) 40)) ((@Exists Sn) (λ i=>And (AF AI (Qa w) (LZ w) (LR w) (Fi (AL w) (Qa w) (AL w) (AL w) (λ j=>BK j (AL w)) (LQ w) (Rd BT (Xe w) (GJ w) (KQ (AL w)) (Qa w) (AD (λ j=>EV j (AL w) (BN (yA (jK i j) (fY w j) Wo) (GK (Bb (Cm (-100000000) 100000000)) 0)) (AX (yA (jK i j) (fY w j) Wo) (GK (Bb (Cm (-100000000) 100000000)) 0)))) (GJ w) (EU (λ j=>EF (eW i j)))))) (EU (λ j=>HF (eW i j) (CK (OK (AL w) j)))))) ((λ (f : Sn -> Prop) => ∀ (x : Sn), f x) (λ i=>BU (EU (λ j=>HF (eW i j) (CK (OK (AL w) j)))) (AO (Xe w) (GJ w) (BU (EU (λ j=>HF (OK (AL w) j) (CK (eW i j)))) (KD (EA (ED (gF w)) (AL w)) (LC (Pu w)) (AD (λ j=>EY j (gF w) (yA (jK i (BV j)) (fY w (BV j)) Wo))) (AL w) w)) (EU (λ j=>HF (OK (AL w) j) (BU (EF (eW i j)) (AO (Xe w) (GJ w) (And (CD j (Pu w)) (NW j (Pu w))) ((@Exists Sn) (λ k=>JB (AF AI (Qa w) (LZ w) (LR w) (Fi (AL w) (Qa w) (AL w) (AL w) (λ l=>BK l (AL w)) (LQ w) (Rd BT (Xe w) (GJ w) (KQ (AL w)) (Qa w) (AD (λ l=>EV l (AL w) (BP (yA (jK k l) (fY w l) Wo) (JJ l j (BG (AFF w j)) (BG (yA (jK i l) (fY w l) Wo)))) (AY (yA (jK k l) (fY w l) Wo) (JJ l j (BJ (AFF w j)) (BJ (yA (jK i l) (fY w l) Wo)))))) (GJ w) (EU (λ l=>KH (eW k l) (or (AIM l j) (eW i l))))))) (EU (λ l=>HF (eW k l) (CK (OK (AL w) l)))) (left (AL w) (eW k) (Pu w)) (left (AL w) (eW i) (Pu w)))))))))))) := by kernel_rfl
theorem AUD (c : Cht) (s t : Int -> Bool) (h : ∀ j, s j = true -> t j = true) : ∀ k, left c t k <= left c s k
 | 0 => Nat.le_refl _
 | k + 1 => by
  have ih := AUD c s t h k
  have hk := h (k : Int)
  simp only [left]
  cases hN : hasN c.ns (k : Int) <;> cases h1 : s (k : Int) <;> cases h2 : t (k : Int) <;> simp_all <;> omega
theorem AXK (c : Cht) (s t : Int -> Bool) (h : ∀ j, s j = true -> t j = true) {j : Nat} (h0 : hasN c.ns (j : Int) = true) (h1 : s (j : Int) = false) (h2 : t (j : Int) = true) : ∀ k, j < k -> left c t k < left c s k
 | 0, hj => by omega
 | k + 1, hj => by
  by_cases e : j = k
  ·subst e
   have := AUD c s t h j
   simp only [left, h0, h1, h2]
   simp; omega
  ·have ih := AXK c s t h h0 h1 h2 k (by omega)
   have hk := h (k : Int)
   simp only [left]
   cases hN : hasN c.ns (k : Int) <;> cases h3 : s (k : Int) <;> cases h4 : t (k : Int) <;> simp_all <;> omega
theorem BYV (w : Dk) (h : 1 <= w.c.ms.length /\ w.c.ms.length <= 40 /\ nsIn w.c) : BNN w := by
 obtain ⟨h1, h2, h3⟩ := h
 rw [BTU]<;> delta KH ZR BG BJ EC ES ET BW ED AD BU CL AR GK BZ DJ HO KB EJ GW EX HP HN HJ GT GB HC DU GG FE Ef JL FY QC NY EU MP KI YM AIM AL JO Wj Cm yA eW Wo AE CR BB AF AY AU RA AG BC FD Nc AX BM CJ AK AN DD BH BY BP CX BN CY BS CE QX AV AQ EV DW AZ Rd CP AS OT DM AP AT BV CN BX NE CM HD CG GP OK FH AO AI DC CK BT UR UU CD NF JY IV KZ HF VU JB PH EA PZ GJ LQ LI DX JS SV Ca OI PI EW BK JF EF KQ EY MC Jx TD MG QK LR LC HT LZ JJ MD TG XM NW Bb KD WW Pu Am VK Qa AFF Xe fY Fi jK gF; simp only [CC, eq_self, implies_true, forall_const]
 refine ⟨⟨by omega, λ j hj => ?_, by omega, h2⟩, ⟨⟨λ _ => false⟩, ⟨λ i hi => ⟨rfl, rfl⟩, λ _ => rfl⟩, λ j hj => by cases hj⟩, λ s hs => ⟨λ hall => ⟨rng_length _ _, Nat.le_refl _, λ j hj => ?_⟩, λ k hk hsk => ⟨⟨h3 k hk, by have := h3 k hk; omega⟩, ⟨λ n => decide (n = k) || s.seen n⟩, ⟨λ i hi => ?_, λ _ => rfl⟩, λ j hj => ?_, ?_⟩⟩⟩
 ·obtain rfl : j = 0 := by omega
  exact ⟨rfl, rfl⟩
 ·have hj : j < w.c.ms.length := by simpa [XD] using hj
  have e : s.seen (j : Int) = hasN w.c.ns (j : Int) := by
   cases hq : hasN w.c.ns (j : Int) with
   | true => exact hall _ hq
   | false =>
    cases hq2 : s.seen (j : Int) with
    | false => rfl
    | true => rw [hs _ hq2] at hq; cases hq
  unfold XD; rw [FF _ _ _ hj, e]; exact ⟨rfl, rfl⟩
 ·have hk0 := h3 k hk
  have e : decide ((i : Int) = k) = decide (i = k.toNat) := by
   rw [Bool.eq_iff_iff, decide_eq_true_eq, decide_eq_true_eq]; omega
  simp only [e]
  by_cases hi2 : i = k.toNat
  ·have : (i : Int) = k := by omega
   rw [this]; simp [hi2]
  ·simp [hi2]
 ·simp only [Bool.or_eq_true, decide_eq_true_eq] at hj
  rcases hj with rfl | hj
  ·exact hk
  ·exact hs j hj
 ·have hk0 := h3 k hk
  have e : ((k.toNat : Nat) : Int) = k := by omega
  exact AXK w.c _ _ (λ j hj => by simp [hj]) (j := k.toNat) (by rw [e]; exact hk) (by rw [e]; exact hsk) (by rw [e]; simp) _ (by omega)
theorem ASY : AJ Try.prog xN (C_not.spec Ze) := XP C_not BQJ [] [202] BAD (λ _ => by kernel_rfl) (λ _ => AA BRM AC) (λ w h => BYV w h) (λ _ => YS rfl rfl) _
end Go.Bal
