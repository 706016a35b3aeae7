/- The statements' kit: Same, Copy; nets copied. Printed by genkit.py. -/
import Derived.Test.YtonddbmhljelgaaBalS
set_option linter.unusedVariables false
set_option linter.unusedSimpArgs false
namespace Go.Bal
open Go Go.Sym Go.Proofs
theorem AFT {α : Type} [Inhabited α] [DecidableEq α] {a b : List α} (h : a.length = b.length) {k : Nat} (hk : a.length <= k) (he : ∀ i, i < k -> gD a i = gD b i) : a = b := Jc h λ i hi => he i (by omega)
theorem ALA {α : Type} [Inhabited α] [DecidableEq α] {a b : List α} {k : Nat} (he : gD a k ≠ gD b k) : ¬ a = b := λ h => he (by rw [h])
theorem ADA {α : Type} [DecidableEq α] {a b : List α} (h : a.length ≠ b.length) : ¬ a = b := λ e => h (by rw [e])
theorem BEM {x y : Reach} (h : x.fr = y.fr /\ x.to = y.to /\ x.sp.lo = y.sp.lo /\ x.sp.hi = y.sp.hi) : x = y := by
 obtain ⟨a, b, ⟨c, d⟩⟩ := x
 obtain ⟨a', b', ⟨c', d'⟩⟩ := y
 simpa using h
structure PInt where
 a : List Int
 b : List Int
def A27 (p : PInt) : Ann := { ann 26 [] with loops := λ id => if id = 4 then some [{ α := Nat, dflt := 0, T := λ k => ⟨[(0, .d (BC p.a)), (1, .d (BC p.b)), (5, .int k)], []⟩, inv := λ k => p.a.length = p.b.length /\ k <= p.a.length /\ ∀ i, i < k -> gD p.a i = gD p.b i, meas := λ k => p.a.length - k }] else none }
def C27 : Ctr := { α := PInt, xs := λ p => [.d (BC p.a), .d (BC p.b)], L := λ _ => [], val := λ p => .bool (decide (p.a = p.b)), keep := λ _ => [], pre := λ p => [p.a.length < 4611686018427387904, p.b.length < 4611686018427387904] }
def d27 : List AVal -> Heap -> Option (PInt × List (Nat × Nat) × List Nat)
 | [.d (.list _ n g _), .d (.list _ m h _)], _ => some (⟨NO n λ i => OO (g i), NO m λ i => OO (h i)⟩, [], [])
 | _, _ => none
def V27 (p : PInt) : Prop := BN Try.prog (A27 p) Try.f27 (AF Try.f27) (C27.xs p) (AD []) (C27.val p) [] [] []
abbrev Lm:=PInt.a
abbrev Kw:=PInt.b
abbrev AEA:=λ (x0 x1 : List Int) => decide (x0 = x1)
abbrev sT a:=EA (Lm a)
abbrev Rz a b c (d:Nat->Prop):=Hn a b c (AG d)
abbrev Sj a b c:=Dq a b (Ft a) c
abbrev OE a b c d e:=AP a b (EP c d) e
abbrev cS a b:=SO a (BT b)
attribute [go_sem] Lm Kw AEA sT Rz Sj OE cS
theorem vc27 (p : PInt) : (V27 p) = (IK (cS (PS (Lm p)) (EA (Kw p))) (PG (AEA (Lm p) (Kw p))) (PV (λ i=>OE (PC (Cz (Lm p)) (λ j=>NV j (Lm p)) (Cz (Kw p)) (λ j=>NV j (Kw p)) (AZ i)) (FH (Lm p) (Kw p)) i (sT p) (AG (λ j=>Du j i (Lm p) (Kw p)))) (λ i=>GM (Rz (FH (Lm p) (Kw p)) i (sT p) (λ j=>Du j i (Lm p) (Kw p))) i (sT p) (Sj i (sT p) (Tg i (EA (Kw p)))) (SO (Ca (Lm p) i) (Ca (Kw p) i)) (PG (AEA (Lm p) (Kw p))) (IJ (λ j=>CB (PC (Cz (Lm p)) (λ k=>NV k (Lm p)) (Cz (Kw p)) (λ k=>NV k (Kw p)) (AU j i)) (Rz (FH (Lm p) (Kw p)) j (sT p) (λ k=>Du k j (Lm p) (Kw p))) (sT p) j i)) (LY (AEA (Lm p) (Kw p)))))) := by kernel_rfl
theorem p27 (p : PInt) (h1 : p.a.length < 4611686018427387904) (h2 : p.b.length < 4611686018427387904) : V27 p := by
 rw [vc27]<;> simp only [go_sem]; simp only [CC, eq_self, implies_true, forall_const]
 refine ⟨λ hb => ?_, λ hb => ⟨⟨0, rfl, ?_, Nat.zero_le _, λ i hi => by omega⟩, λ k ⟨q1, q2, q3⟩ => ⟨λ hlt => ⟨⟨⟨by omega, hlt⟩, by omega, by omega⟩, λ hc => ?_, λ hc => ⟨k + 1, (AL (by omega)).symm, ⟨q1, by omega, λ i hi => ?_⟩, by omega⟩⟩, λ hge => ?_⟩⟩⟩
 ·have : ¬ (p.a.length : Int) = p.b.length := by simpa using hb
  exact ADA (by omega)
 ·have : (p.a.length : Int) = p.b.length := by simpa using hb
  omega
 ·refine ALA (k := k) λ he => ?_
  simp [he] at hc
 ·by_cases he : i = k
  ·subst he
   simpa using hc
  ·exact q3 i (by omega)
 ·exact AFT q1 (by omega) q3
theorem ok27 : AH Try.prog 27 (C27.spec d27) := UY C27 A27 [] [] Try.func27 (λ _ => by kernel_rfl) (λ _ => AE) (λ p h => p27 p h.1 h.2) (λ _ => WR rfl rfl) _
def C16 : Ctr := { α := List Int, xs := λ l => [.d (BC l)], L := λ _ => [], val := λ l => .d (BC l), keep := λ _ => [], pre := λ l => [l.length <= 1000000] }
def d16 : List AVal -> Heap -> Option (List Int × List (Nat × Nat) × List Nat)
 | [.d (.list _ n g _)], _ => some (NO n λ i => OO (g i), [], [])
 | _, _ => none
def V16 (l : List Int) : Prop := BN Try.prog (ann 7 []) Try.f16 (AF Try.f16) (C16.xs l) (AD []) (C16.val l) [] [] []
theorem vc16 (l : List Int) : (V16 l) = (PY (Nl (lW X0) (rY SM l) (KO (EA l)) (AT (EA l)) 8) (FI l (AT (EA l))) (λ i=>Fo i l (ARK l i (Bh i)))) := by kernel_rfl
theorem p16 (l : List Int) (h : l.length <= 1000000) : V16 l := by
 rw [vc16]<;> simp only [go_sem]; simp only [CC, eq_self, implies_true, forall_const]
 simp; omega
theorem ok16 : AH Try.prog 16 (C16.spec d16) := UY C16 (λ _ => ann 7 []) [] [] Try.func16 (λ _ => by kernel_rfl) (λ _ => AE) (λ l h => p16 l h) (λ _ => WR rfl rfl) _
structure PSpan where
 a : List Span
 b : List Span
def A37 (p : PSpan) : Ann := { ann 26 [] with loops := λ id => if id = 4 then some [{ α := Nat, dflt := 0, T := λ k => ⟨[(0, .d (PJ p.a)), (1, .d (PJ p.b)), (5, .int k)], []⟩, inv := λ k => p.a.length = p.b.length /\ k <= p.a.length /\ ∀ i, i < k -> gD p.a i = gD p.b i, meas := λ k => p.a.length - k }] else none }
def C37 : Ctr := { α := PSpan, xs := λ p => [.d (PJ p.a), .d (PJ p.b)], L := λ _ => [], val := λ p => .bool (decide (p.a = p.b)), keep := λ _ => [], pre := λ p => [p.a.length < 4611686018427387904, p.b.length < 4611686018427387904] }
def d37 : List AVal -> Heap -> Option (PSpan × List (Nat × Nat) × List Nat)
 | [.d (.list _ n g _), .d (.list _ m h _)], _ => some (⟨NO n λ i => ZX (g i), NO m λ i => ZX (h i)⟩, [], [])
 | _, _ => none
def V37 (p : PSpan) : Prop := BN Try.prog (A37 p) Try.f37 (AF Try.f37) (C37.xs p) (AD []) (C37.val p) [] [] []
abbrev Sy:=PSpan.a
abbrev gL:=PSpan.b
abbrev yB:=λ (x0 x1 : List Span) => decide (x0 = x1)
abbrev AZK:=@Eq Span
abbrev Mh a:=LC (Sy a)
abbrev Xl a:=LC (gL a)
abbrev eJ a b c:=W3 (Ou a) (Ou b) c
abbrev cV a b:=Bz (Ok a) (Ok b)
attribute [go_sem] Sy gL yB AZK Mh Xl eJ cV
theorem vc37 (p : PSpan) : (V37 p) = (IK (cS (BT (Mh p)) (Xl p)) (PG (yB (Sy p) (gL p))) (PV (λ i=>OE (PC (DU (Mh p)) (λ j=>Wv j (Mh p) (Sy p)) (DU (Xl p)) (λ j=>Wv j (Xl p) (gL p)) (AZ i)) (RH (Sy p) (Xl p)) i (Mh p) (AG (λ j=>HJ j i (AZK (ES (Sy p) j) (ES (gL p) j))))) (λ i=>GM (Rz (RH (Sy p) (Xl p)) i (Mh p) (λ j=>HJ j i (AZK (ES (Sy p) j) (ES (gL p) j)))) i (Mh p) (Sj i (Mh p) (Tg i (Xl p))) (not (eJ (ES (Sy p) i) (ES (gL p) i) (cV (ES (Sy p) i) (ES (gL p) i)))) (PG (yB (Sy p) (gL p))) (IJ (λ j=>CB (PC (DU (Mh p)) (λ k=>Wv k (Mh p) (Sy p)) (DU (Xl p)) (λ k=>Wv k (Xl p) (gL p)) (AU j i)) (Rz (RH (Sy p) (Xl p)) j (Mh p) (λ k=>HJ k j (AZK (ES (Sy p) k) (ES (gL p) k)))) (Mh p) j i)) (LY (yB (Sy p) (gL p)))))) := by kernel_rfl
theorem p37 (p : PSpan) (h1 : p.a.length < 4611686018427387904) (h2 : p.b.length < 4611686018427387904) : V37 p := by
 rw [vc37]<;> simp only [go_sem]; simp only [CC, eq_self, implies_true, forall_const]
 refine ⟨λ hb => ?_, λ hb => ⟨⟨0, rfl, ?_, Nat.zero_le _, λ i hi => by omega⟩, λ k ⟨q1, q2, q3⟩ => ⟨λ hlt => ⟨⟨⟨by omega, hlt⟩, by omega, by omega⟩, λ hc => ?_, λ hc => ⟨k + 1, (AL (by omega)).symm, ⟨q1, by omega, λ i hi => ?_⟩, by omega⟩⟩, λ hge => ?_⟩⟩⟩
 ·have : ¬ (p.a.length : Int) = p.b.length := by simpa using hb
  exact ADA (by omega)
 ·have : (p.a.length : Int) = p.b.length := by simpa using hb
  omega
 ·refine ALA (k := k) λ he => ?_
  simp [he] at hc
 ·by_cases he : i = k
  ·subst he
   cases hx : gD p.a i; cases hy : gD p.b i; simp [hx, hy] at hc ⊢; exact hc
  ·exact q3 i (by omega)
 ·exact AFT q1 (by omega) q3
theorem ok37 : AH Try.prog 37 (C37.spec d37) := UY C37 A37 [] [] Try.func37 (λ _ => by kernel_rfl) (λ _ => AE) (λ p h => p37 p h.1 h.2) (λ _ => WR rfl rfl) _
def C51 : Ctr := { α := List Span, xs := λ l => [.d (PJ l)], L := λ _ => [], val := λ l => .d (PJ l), keep := λ _ => [], pre := λ l => [l.length <= 1000000] }
def d51 : List AVal -> Heap -> Option (List Span × List (Nat × Nat) × List Nat)
 | [.d (.list _ n g _)], _ => some (NO n λ i => ZX (g i), [], [])
 | _, _ => none
def V51 (l : List Span) : Prop := BN Try.prog (ann 7 []) Try.f51 (AF Try.f51) (C51.xs l) (AD []) (C51.val l) [] [] []
theorem vc51 (l : List Span) : (V51 l) = (PY (Nl (lW (cB 0)) (Sr SM (LC l) 2) (KO (LC l)) (AT (LC l)) 16) (RH l (AT (LC l))) (λ i=>TT i l l (Bh i))) := by kernel_rfl
theorem p51 (l : List Span) (h : l.length <= 1000000) : V51 l := by
 rw [vc51]<;> simp only [go_sem]; simp only [CC, eq_self, implies_true, forall_const]
 simp; omega
theorem ok51 : AH Try.prog 51 (C51.spec d51) := UY C51 (λ _ => ann 7 []) [] [] Try.func51 (λ _ => by kernel_rfl) (λ _ => AE) (λ l h => p51 l h) (λ _ => WR rfl rfl) _
structure PReach where
 a : List Reach
 b : List Reach
def A72 (p : PReach) : Ann := { ann 26 [] with loops := λ id => if id = 4 then some [{ α := Nat, dflt := 0, T := λ k => ⟨[(0, .d (HE p.a)), (1, .d (HE p.b)), (5, .int k)], []⟩, inv := λ k => p.a.length = p.b.length /\ k <= p.a.length /\ ∀ i, i < k -> gD p.a i = gD p.b i, meas := λ k => p.a.length - k }] else none }
def C72 : Ctr := { α := PReach, xs := λ p => [.d (HE p.a), .d (HE p.b)], L := λ _ => [], val := λ p => .bool (decide (p.a = p.b)), keep := λ _ => [], pre := λ p => [p.a.length < 4611686018427387904, p.b.length < 4611686018427387904] }
def d72 : List AVal -> Heap -> Option (PReach × List (Nat × Nat) × List Nat)
 | [.d (.list _ n g _), .d (.list _ m h _)], _ => some (⟨NO n λ i => RN (g i), NO m λ i => RN (h i)⟩, [], [])
 | _, _ => none
def V72 (p : PReach) : Prop := BN Try.prog (A72 p) Try.f72 (AF Try.f72) (C72.xs p) (AD []) (C72.val p) [] [] []
abbrev Lj:=PReach.a
abbrev Vc:=PReach.b
abbrev APZ:=λ (x0 x1 : List Reach) => decide (x0 = x1)
abbrev BBM:=@Eq Reach
abbrev Ni a:=PM (Lj a)
abbrev Xi a:=PM (Vc a)
attribute [go_sem] Lj Vc APZ BBM Ni Xi
theorem vc72 (p : PReach) : (V72 p) = (IK (cS (BT (Ni p)) (Xi p)) (PG (APZ (Lj p) (Vc p))) (PV (λ i=>OE (PC (DU (Ni p)) (λ j=>UX j (Ni p) (Lj p) j j j) (DU (Xi p)) (λ j=>UX j (Xi p) (Vc p) j j j) (AZ i)) (MN (Lj p) (Xi p)) i (Ni p) (AG (λ j=>HJ j i (BBM (Fg (Lj p) j) (Fg (Vc p) j))))) (λ i=>GM (Rz (MN (Lj p) (Xi p)) i (Ni p) (λ j=>HJ j i (BBM (Fg (Lj p) j) (Fg (Vc p) j)))) i (Ni p) (Sj i (Ni p) (Tg i (Xi p))) (not (and (Bz (IN (Lj p) i) (IN (Vc p) i)) (W3 (FY (Lj p) i) (FY (Vc p) i) (eJ (IU (Lj p) i) (IU (Vc p) i) (cV (IU (Lj p) i) (IU (Vc p) i)))))) (PG (APZ (Lj p) (Vc p))) (IJ (λ j=>CB (PC (DU (Ni p)) (λ k=>UX k (Ni p) (Lj p) k k k) (DU (Xi p)) (λ k=>UX k (Xi p) (Vc p) k k k) (AU j i)) (Rz (MN (Lj p) (Xi p)) j (Ni p) (λ k=>HJ k j (BBM (Fg (Lj p) k) (Fg (Vc p) k)))) (Ni p) j i)) (LY (APZ (Lj p) (Vc p)))))) := by kernel_rfl
theorem p72 (p : PReach) (h1 : p.a.length < 4611686018427387904) (h2 : p.b.length < 4611686018427387904) : V72 p := by
 rw [vc72]<;> simp only [go_sem]; simp only [CC, eq_self, implies_true, forall_const]
 refine ⟨λ hb => ?_, λ hb => ⟨⟨0, rfl, ?_, Nat.zero_le _, λ i hi => by omega⟩, λ k ⟨q1, q2, q3⟩ => ⟨λ hlt => ⟨⟨⟨by omega, hlt⟩, by omega, by omega⟩, λ hc => ?_, λ hc => ⟨k + 1, (AL (by omega)).symm, ⟨q1, by omega, λ i hi => ?_⟩, by omega⟩⟩, λ hge => ?_⟩⟩⟩
 ·have : ¬ (p.a.length : Int) = p.b.length := by simpa using hb
  exact ADA (by omega)
 ·have : (p.a.length : Int) = p.b.length := by simpa using hb
  omega
 ·refine ALA (k := k) λ he => ?_
  simp [he] at hc
 ·by_cases he : i = k
  ·subst he
   exact BEM (by simpa using hc)
  ·exact q3 i (by omega)
 ·exact AFT q1 (by omega) q3
theorem ok72 : AH Try.prog 72 (C72.spec d72) := UY C72 A72 [] [] Try.func72 (λ _ => by kernel_rfl) (λ _ => AE) (λ p h => p72 p h.1 h.2) (λ _ => WR rfl rfl) _
def C52 : Ctr := { α := List Reach, xs := λ l => [.d (HE l)], L := λ _ => [], val := λ l => .d (HE l), keep := λ _ => [], pre := λ l => [l.length <= 1000000] }
def d52 : List AVal -> Heap -> Option (List Reach × List (Nat × Nat) × List Nat)
 | [.d (.list _ n g _)], _ => some (NO n λ i => RN (g i), [], [])
 | _, _ => none
def V52 (l : List Reach) : Prop := BN Try.prog (ann 7 []) Try.f52 (AF Try.f52) (C52.xs l) (AD []) (C52.val l) [] [] []
theorem vc52 (l : List Reach) : (V52 l) = (PY (Nl (lW (lJ 4)) (Sr SM (PM l) 4) (KO (PM l)) (AT (PM l)) 32) (MN l (AT (PM l))) (λ i=>Mm i l (IN l (Bh i)) (FY l (Bh i)) (IU l (Bh i)))) := by kernel_rfl
theorem p52 (l : List Reach) (h : l.length <= 1000000) : V52 l := by
 rw [vc52]<;> simp only [go_sem]; simp only [CC, eq_self, implies_true, forall_const]
 simp; omega
theorem ok52 : AH Try.prog 52 (C52.spec d52) := UY C52 (λ _ => ann 7 []) [] [] Try.func52 (λ _ => by kernel_rfl) (λ _ => AE) (λ l h => p52 l h) (λ _ => WR rfl rfl) _
end Go.Bal

namespace Go.Bal
open Go Go.Sym Go.Proofs
def V50 (a b : Int) : Prop := BN Try.prog (ann 8 []) Try.f50 (AF Try.f50) [.int a, .int b] (AD []) (.d (OW ⟨a, b⟩)) [] [] []
theorem vc50 (a : Int) (b : Int) : (V50 a b) = (And (AR a) (AR b)) := by kernel_rfl
def f50 : List AVal -> Option (AVal × List Prop)
 | [.d (.v (.int .i64 a)), .d (.v (.int .i64 b))] => some (.d (OW ⟨a, b⟩), [])
 | _ => none
def s50 := IY f50
theorem ok50 : AH Try.prog 50 s50 := EH λ xs v p h _ => by
 unfold f50 at h; split at h
 ·cases h; exact Pb (A := ann 8 []) (ren := []) (fz := []) Try.func50 (by kernel_rfl) AE (by show V50 _ _; rw [vc50]<;> delta AS AR; exact ⟨rfl, rfl⟩)
 ·cases h
def dG (lo hi : Int) : NetL := ⟨[⟨100, 120⟩, ⟨0, 10⟩, ⟨-200, -100⟩], [⟨0, 1, ⟨90, 115⟩⟩, ⟨1, 2, ⟨lo, hi⟩⟩]⟩
def A49 := ann 17 [(50, s50)]
def C49 : Ctr := { α := Span, xs := λ s => [.int s.lo, .int s.hi], L := λ _ => [], val := λ s => .d (LW (dG s.lo s.hi)), keep := λ _ => [] }
def d49 : List AVal -> Heap -> Option (Span × List (Nat × Nat) × List Nat)
 | [.d (.v (.int _ a)), .d (.v (.int _ b))], _ => some (⟨a, b⟩, [], [])
 | _, _ => none
def V49 (s : Span) : Prop := BN Try.prog A49 Try.f49 (AF Try.f49) (C49.xs s) (AD []) (C49.val s) [] [] [2048, 2160]
abbrev TG a b c:=AHT a 0 b c
abbrev PZ a b c:=TG (AT a) b c
abbrev Aw a:=dG (Ou a) (Ok a)
abbrev Ej:=AKJ 2
abbrev JI a b c d:=TG a b (TG (WC a 1) c d)
abbrev Jr:=AKJ 3
abbrev Mu a b:=ED (AY a) b
attribute [go_sem] TG PZ Aw Ej JI Jr Mu
theorem vc49 (s : Span) : (V49 s) = (And (Mu (Aw s) 3) (EF Jr (λ i=>QA i (AY (Aw s)) (CU (Aw s) i) (JI (AT i) 100 0 (-200)) (JI (AT i) 120 10 (-100))) (cB (AM (Aw s))) Ej (AG (λ i=>OX i (AM (Aw s)) (AS (EJ (Aw s) i) (PZ i 0 1)) (EC (Aw s) i) (PZ i 1 2) (CY (Aw s) i) (PZ i 90 (Ou s)) (PZ i 115 (Ok s)))))) := by kernel_rfl
theorem p49 (s : Span) : V49 s := by
 rw [vc49]<;> simp only [go_sem]; simp only [CC, eq_self, implies_true, forall_const]
 refine ⟨rfl, by decide, λ j hj => ?_, rfl, by decide, λ j hj => ?_⟩
 ·have hj : j < 3 := hj
  match j, hj with
  | 0, _ => exact ⟨rfl, rfl⟩
  | 1, _ => exact ⟨rfl, rfl⟩
  | 2, _ => exact ⟨rfl, rfl⟩
 ·have hj : j < 2 := hj
  match j, hj with
  | 0, _ => exact ⟨rfl, rfl, rfl, rfl⟩
  | 1, _ => exact ⟨rfl, rfl, rfl, rfl⟩
theorem ok49 : AH Try.prog 49 (C49.spec d49) := UY C49 (λ _ => A49) [] [2048, 2160] Try.func49 (λ _ => by kernel_rfl) (λ _ => AA ok50 AE) (λ s _ => p49 s) (λ _ => WR rfl rfl) _
def A15 := ann 10 [(51, C51.spec d51), (52, C52.spec d52)]
def C15 : Ctr := { α := NetL, xs := λ N => [.d (LW N)], L := λ _ => [], val := λ N => .d (LW N), keep := λ _ => [], pre := λ N => [N.g.length <= 1000000, N.r.length <= 1000000] }
def V15 (N : NetL) : Prop := BN Try.prog A15 Try.f15 (AF Try.f15) (C15.xs N) (AD []) (C15.val N) [] [] []
abbrev ALH a b c d:=Vz a b c (M9 d a)
abbrev Pw a b:=ED a (OK b)
abbrev Ke a:=TB a 1000000
abbrev Cd a:=EP a 1000000
abbrev RV a:=Cd (OK a)
attribute [go_sem] ALH Pw Ke Cd RV
theorem vc15 (N : NetL) : (V15 N) = (Be (And (OB N) (LQ (AG (λ i=>OD i N)) (RV N) (DE N) (λ i=>HW i N) (Ke (HA N)))) (Pw (AY N) N) (λ i=>ALH i (AY N) (CU N i) N) (ED (AM N) (HA N)) (λ i=>jI i (AM N) (AS (EJ N i) (Q0 N i)) (EC N i) (Hc N i) (CY N i) (He N i))) := by kernel_rfl
theorem p15 (N : NetL) (h1 : N.g.length <= 1000000) (h2 : N.r.length <= 1000000) : V15 N := by
 rw [vc15]<;> simp only [go_sem]; simp only [CC, eq_self, implies_true, forall_const]
 exact ⟨h1, h2⟩
theorem ok15 : AH Try.prog 15 (C15.spec fT) := UY C15 (λ _ => A15) [] [] Try.func15 (λ _ => by kernel_rfl) (λ _ => AA ok51 (AA ok52 AE)) (λ N h => p15 N h.1 h.2) (λ _ => WR rfl rfl) _
def nwB (N : NetL) (v : AVal) : HCell := .live (.box [.d (PJ N.g), v])
def A17 (N : NetL) : Ann := { ann 27 [(51, C51.spec d51)] with mt := λ id => id == 5, loops := λ id => if id = 3 then some [{ α := Nat, dflt := 0, T := λ k => ⟨[(1, .bptr 201 0), (2, .bptr 202 0), (3, .bptr 203 0), (4, .int k)], [(201, LF N), (202, .live (.box [.d Gg, .d Gg])), (203, nwB N (.d Gg))]⟩, inv := λ k => k = 0, meas := λ k => N.r.length - k, first := [(201, 1000), (202, 1016), (203, 2064)] }, { α := Nat, dflt := 0, T := λ k => ⟨[(1, .bptr 201 0), (2, .bptr 202 0), (3, .bptr 203 0), (4, .int k)], [(201, LF N), (202, .live (.box [.d Gg, .d Gg])), (203, nwB N (.own 204 4 0 k)), (204, .live (.row 4 k λ i => Ms (gD N.r i)))]⟩, inv := λ k => k <= N.r.length, meas := λ k => N.r.length - k, again := [(204, 6128)] }] else none }
def C17 : Ctr := { C15 with val := λ (N : NetL) => .d (LW N) }
def d17 : List AVal -> Heap -> Option (C17.α × List (Nat × Nat) × List Nat) := fT
def V17 (N : NetL) : Prop := BN Try.prog (A17 N) Try.f17 (AF Try.f17) (C17.xs N) (AD []) (C17.val N) [] [] [204]
abbrev AVC a b c d e f g h:=jI a b c d (EC e f) g h
abbrev APC a b:=CY a (AT b)
abbrev Bq a b c d e f g h p:=AVC a b c d e (AT f) g (APC h p)
abbrev ASV a b c:=QJ a b (AT c)
abbrev aC:=AEY 4
abbrev OR a b c d e f g h:=AVC a b c d e f g (CY e h)
attribute [go_sem] AVC APC Bq ASV aC OR
theorem vc17 (N : NetL) : (V17 N) = (Sk (SJ N (Ke (OK N))) (IJ (λ i=>YU (ANB (AZ i) N (Ns (DX N) BU (EO PU (Pw (AY N) N) (λ j=>ALH j (AY N) (CU N j) N) AC BU))) i)) (AG (λ i=>CG (FB i) i (AM N) (VA (Ax i (AM N) (Vy (lJ 4) aC 32)) (λ j=>Nf (AJ (AU j i) (BA N) (EO (λ k=>MZ k N) (CA N) (λ k=>IM k N) AC (mU BU AC (BA N) (C7 (CE N) (IL j) (λ k=>OR k j (QJ (EJ N k) N i) (EC N k) N i (CY N k) i))))) j N i)) (And (BA N) (W6 (CE N) (FB (AM N)))))) (λ i=>CG (TB i (AM N)) i (AM N) (VA (Ax i (AM N) (VI i 4 aC 32)) (λ j=>Nf (AJ (AU j i) (BA N) (EO (λ k=>MZ k N) (CA N) (λ k=>IM k N) AC (mU BU AC (BA N) (C7 (CE N) (MK j i) (λ k=>OX k j (AS (EJ N k) (HV k i (EJ N k) (EJ N i))) (EC N k) (HV k i (EC N k) (EC N i)) (CY N k) (No k i (CY N k) (CY N i)) (Oc k i (CY N k) (CY N i))))))) j N i)) (EF (BA N) (λ j=>MZ j N) (ED (AM N) i) (BM i) (AG (λ j=>Bq j (AM N) (ASV (EJ N j) N j) (EC N j) N j (CY N j) N j))))) := by kernel_rfl
theorem p17 (N : NetL) (h1 : N.g.length <= 1000000) (h2 : N.r.length <= 1000000) : V17 N := by
 rw [vc17]<;> simp only [go_sem]; simp only [CC, eq_self, implies_true, forall_const]
 refine ⟨h1, ⟨0, rfl, rfl⟩, λ k hk => ⟨λ hlt => ⟨⟨⟨by omega, hlt⟩, by decide, by decide, by decide, by decide, by decide⟩, ?_⟩, λ hge => by omega⟩, λ k hk => ⟨λ hlt => ⟨⟨⟨by omega, hlt⟩, by decide, by decide, by omega, by omega⟩, ?_⟩, λ hge => ⟨by omega, Nat.le_refl _⟩⟩⟩
 ·subst hk
  refine ⟨1, ⟨rfl, rfl, rfl, λ i hi => ?_⟩, by omega, by omega⟩
  have : i = 0 := by omega
  subst this; exact ⟨rfl, rfl, rfl, rfl⟩
 ·refine ⟨k + 1, ⟨(AL (by omega)).symm, rfl, rfl, λ i hi => ?_⟩, by omega, by omega⟩
  by_cases hi2 : i < k
  ·simp [hi2]
  ·have : i = k := by omega
   subst this; simp
theorem ok17 : AH Try.prog 17 (C17.spec d17) := UY C17 A17 [] [204] Try.func17 (λ _ => by kernel_rfl) (λ _ => AA ok51 AE) (λ N h => p17 N h.1 h.2) (λ _ => WR rfl rfl) _
structure PNet where
 a : NetL
 b : NetL
def A28 := ann 17 [(37, C37.spec d37), (72, C72.spec d72)]
def Ot (N : NetL) : Prop := N.g.length <= 1000000 /\ N.r.length <= 1000000
def C28 : Ctr := { α := PNet, xs := λ p => [.d (LW p.a), .d (LW p.b)], L := λ _ => [], val := λ p => .bool (decide (p.a = p.b)), keep := λ _ => [], pre := λ p => [Ot p.a, Ot p.b] }
def d28 : List AVal -> Heap -> Option (PNet × List (Nat × Nat) × List Nat)
 | [.d x, .d y], _ => match Tf x, Tf y with
  | some M, some N => some (⟨M, N⟩, [], [])
  | _, _ => none
 | _, _ => none
def V28 (p : PNet) : Prop := BN Try.prog A28 Try.f28 (AF Try.f28) (C28.xs p) (AD []) (C28.val p) [] [] []
abbrev pX:=PNet.a
abbrev oI:=PNet.b
abbrev BFX:=λ (x0 x1 : NetL) => decide (x0 = x1)
attribute [go_sem] pX oI BFX
theorem vc28 (p : PNet) : (V28 p) = (And (SJ (pX p) (EF (OB (oI p)) (λ i=>OD i (oI p)) (YX (OK (pX p))) (YX (OK (oI p))) (VB (yB (gY (pX p)) (gY (oI p))) (Ck (DE (pX p)) (λ i=>HW i (pX p)) (DE (oI p)) (λ i=>HW i (oI p)) (YX (HA (pX p))) (Oh (HA (oI p))))))) (Qy (BFX (pX p) (oI p)) (yB (gY (pX p)) (gY (oI p))) (APZ (mT (pX p)) (mT (oI p))))) := by kernel_rfl
theorem p28 (p : PNet) (h1 : Ot p.a) (h2 : Ot p.b) : V28 p := by
 rw [vc28]<;> simp only [go_sem]; simp only [CC, eq_self, implies_true, forall_const]
 obtain ⟨a1, a2⟩ := h1
 obtain ⟨b1, b2⟩ := h2
 refine ⟨⟨by omega, by omega, λ _ => ⟨by omega, by omega⟩⟩, ?_⟩
 obtain ⟨⟨g, r⟩, ⟨g', r'⟩⟩ := p
 by_cases h1 : g = g' <;> by_cases h2 : r = r' <;> simp [h1, h2]
theorem ok28 : AH Try.prog 28 (C28.spec d28) := UY C28 (λ _ => A28) [] [] Try.func28 (λ _ => by kernel_rfl) (λ _ => AA ok37 (AA ok72 AE)) (λ p h => p28 p h.1 h.2) (λ _ => WR rfl rfl) _
end Go.Bal
