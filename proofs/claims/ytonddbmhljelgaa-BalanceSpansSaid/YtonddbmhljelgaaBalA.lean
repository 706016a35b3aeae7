/- Package balance: in, flowing, every over spans. -/
import Derived.Test.YtonddbmhljelgaaBal0
set_option linter.unusedVariables false
set_option linter.unusedSimpArgs false
namespace Go.Bal
open Go Go.Sym Go.Proofs
def inM (a b c : Int) : Bool := decide (b <= a) && decide (a <= c)
def CJ (s : Span) : Bool := inM s.lo (-1000000) s.hi && inM s.hi (-1000000) 1000000
def HP (p : Nat -> Bool) : Nat -> Bool
 | 0 => true
 | n + 1 => HP p n && p n
theorem ET {p : Nat -> Bool} : ∀ {n : Nat}, HP p n = true ↔ ∀ i, i < n -> p i = true
 | 0 => by simp [HP]
 | n + 1 => by
  simp only [HP, Bool.and_eq_true, ET (n := n)]
  constructor
  ·intro h i hi
   by_cases he : i = n
   ·subst he; exact h.2
   ·exact h.1 i (by omega)
  ·exact λ h => ⟨λ i hi => h i (by omega), h n (by omega)⟩
theorem Uo {p : Nat -> Bool} : ∀ {n k : Nat}, (0 <= GQ p n k) ↔ ∃ i, k <= i /\ i < k + n /\ p i = true
 | 0, k => by simp [GQ]; omega
 | n + 1, k => by
  simp only [GQ]
  by_cases h : p k = true
  ·rw [if_pos h]
   constructor
   ·intro _; exact ⟨k, Nat.le_refl _, by omega, h⟩
   ·intro _; omega
  ·rw [if_neg h, Uo (n := n) (k := k + 1)]
   constructor
   ·rintro ⟨i, h1, h2, h3⟩; exact ⟨i, by omega, by omega, h3⟩
   ·rintro ⟨i, h1, h2, h3⟩
    refine ⟨i, ?_, by omega, h3⟩
    by_cases he : i = k
    ·subst he; exact absurd h3 h
    ·omega
theorem Dz {p : Nat -> Bool} {n : Nat} : (!decide (0 <= GQ (λ i => !p i) n 0)) = HP p n := by
 rw [Bool.eq_iff_iff, ET]
 simp only [Bool.not_eq_true', decide_eq_false_iff_not, Uo, Nat.zero_le, Nat.zero_add, true_and]
 constructor
 ·intro h i hi
  cases hp : p i with
  | true => rfl
  | false => exact (h ⟨i, hi, by simp [hp]⟩).elim
 ·rintro h ⟨i, hi, hp⟩
  rw [h i hi] at hp; cases hp
def V62 (a b d : Int) : Prop := BC Try.prog (ann 15 []) Try.f62 (AH Try.f62) [.int a, .int b, .int d] (AE []) (.bool (inM a b d)) [] [] []
theorem vc62 (a : Int) (b : Int) (d : Int) : (V62 a b d) = (inM a b d = bif decide (a >= b) then decide (a <= d) else false) := by kernel_rfl
def f62 : List AVal -> Option (AVal × List Prop)
 | [.d (.v (.int .i64 a)), .d (.v (.int .i64 b)), .d (.v (.int .i64 c))] => some (.bool (inM a b c), [])
 | _ => none
def Zt := DX f62
theorem c62 (a b d : Int) : FnT Try.prog 62 [.int a, .int b, .int d] (AE []) (.bool (inM a b d)) [] := by
 refine NE (A := ann 15 []) (ren := []) (fz := []) Try.func62 (by kernel_rfl) (AF) ?_
 show V62 a b d
 rw [vc62]
 unfold inM
 by_cases h : b <= a <;> simp [h]
theorem Hm : AI Try.prog 62 Zt := CE λ xs v p h _ => by
 unfold f62 at h; split at h
 ·cases h; exact c62 _ _ _
 ·cases h
def A81 := ann 13 [(62, Zt)]
def V81 (s : Span) : Prop := BC Try.prog A81 Try.f81 (AH Try.f81) [.d (EU s)] (AE []) (.bool (CJ s)) [] [] []
theorem vc81 (s : Span) : (V81 s) = (CJ s = bif inM s.lo (-1000000) s.hi then inM s.hi (-1000000) 1000000 else false) := by kernel_rfl
def f81 : List AVal -> Option (AVal × List Prop)
 | [.d (.agg [.v (.int .i64 a), .v (.int .i64 b)])] => some (.bool (CJ ⟨a, b⟩), [])
 | _ => none
def s81 := DX f81
theorem c81 (s : Span) : FnT Try.prog 81 [.d (EU s)] (AE []) (.bool (CJ s)) [] := by
 refine NE (A := A81) (ren := []) (fz := []) Try.func81 (by kernel_rfl) (AA Hm AF) ?_
 show V81 s
 rw [vc81]
 unfold CJ
 cases inM s.lo (-1000000) s.hi <;> simp
theorem ok81 : AI Try.prog 81 s81 := CE λ xs v p h _ => by
 unfold f81 at h; split at h
 ·cases h; exact c81 ⟨_, _⟩
 ·cases h
def B81 : AObj := .box [.fn (.func 81) [] []]
def C105 : Ctr := { ro := [100], α := Span, xs := λ s => [.d (EU s), .bptr 100 0], L := λ _ => [(100, B81)], val := λ s => .bool (!CJ s), keep := λ _ => [(100, .live B81)] }
def d105 : List AVal -> Heap -> Option (Span × List (Nat × Nat) × List Nat)
 | [.d d, .bptr id _], _ => some (IC d, [(100, id)], [])
 | _, _ => none
def A105 := { ann 8 [(81, s81)] with E := [100] }
def V105 (s : Span) : Prop := BC Try.prog A105 Try.f105 (AH Try.f105) (C105.xs s) (AE (C105.L s)) (C105.val s) (C105.keep s) [] []
theorem ACK (s : Span) : (V105 s) = ((!CJ s) = !CJ s) := by kernel_rfl
theorem p105 (s : Span) : V105 s := by rw [ACK]
theorem ACZ : AI Try.prog 105 (C105.spec d105) := Ctr.spec_ok (λ (s : Span) _ => NE (A := A105) (ren := []) (fz := []) Try.func105 (by kernel_rfl) (AA ok81 AF) (p105 s)) _
def A109 (n : Nat) (g : Nat -> Span) : Ann := { ann 19 [(105, C105.spec d105)] with E := [100], loops := λ id => if id = 2 then some [{ α := Nat, dflt := 0, T := λ k => ⟨[(0, .d (Ec n g)), (1, .fn (.func 105) [] [.bptr 100 0]), (7, .int n), (8, .int k)], [(100, .live B81)]⟩, inv := λ k => k <= n /\ GQ (λ i => !CJ (g i)) n 0 = GQ (λ i => !CJ (g i)) (n - k) k, meas := λ k => n - k }] else none }
structure NSpan where
 n : Nat
 g : Nat -> Span
def C109 : Ctr := { ro := [100], α := NSpan, xs := λ s => [.d (Ec s.n s.g), .fn (.func 105) [] [.bptr 100 0]], L := λ _ => [(100, B81)], val := λ s => .int (GQ (λ i => !CJ (s.g i)) s.n 0), keep := λ _ => [(100, .live B81)], pre := λ s => [decide (s.n < 4611686018427387904) = true] }
def d109 : List AVal -> Heap -> Option (NSpan × List (Nat × Nat) × List Nat)
 | [.d (.list _ n g _), .fn _ _ [.bptr id _]], _ => some (⟨n, λ i => IC (g i)⟩, [(100, id)], [])
 | _, _ => none
def V109 (s : NSpan) : Prop := BC Try.prog (A109 s.n s.g) Try.f109 (AH Try.f109) (C109.xs s) (AE (C109.L s)) (C109.val s) (C109.keep s) [] []
theorem ACN (s : NSpan) : (V109 s) = ((∃ (a : Nat), (s.n = s.n /\ (∀ (i : Nat), i < s.n -> (s.g i).lo = (s.g i).lo /\ (s.g i).hi = (s.g i).hi) /\ (↑s.n : Int) = (↑s.n : Int) /\ (↑a : Int) = 0) /\ a <= s.n /\ GQ (λ (i : Nat)
 => !CJ (s.g i)) s.n 0 = GQ (λ (i : Nat) => !CJ (s.g i)) (s.n - a) a) /\ ∀ (a : Nat), a <= s.n /\ GQ (λ (i : Nat) => !CJ (s.g i)) s.n 0 = GQ (λ (i : Nat) => !CJ (s.g i)) (s.n - a) a -> bif decide ((↑a :
 Int) < (↑s.n : Int)) then ((0 <= (↑a : Int) /\ (↑a : Int) < (↑s.n : Int)) /\ (s.g a).lo = (s.g a).lo /\ (s.g a).hi = (s.g a).hi) /\ bif !CJ (s.g a) then GQ (λ (i : Nat) => !CJ (s.g i)) s.n 0 = (↑a : Int) else ∃ (a_2
 : Nat), (s.n = s.n /\ (∀ (i : Nat), i < s.n -> (s.g i).lo = (s.g i).lo /\ (s.g i).hi = (s.g i).hi) /\ (↑s.n : Int) = (↑s.n : Int) /\ (↑a_2 : Int) = IntKind.i64.wrap ((↑a : Int) + 1)) /\ (a_2 <= s.n /\ GQ (λ (i : Nat) =>
 !CJ (s.g i)) s.n 0 = GQ (λ (i : Nat) => !CJ (s.g i)) (s.n - a_2) a_2) /\ s.n - a_2 < s.n - a else GQ (λ (i : Nat) => !CJ (s.g i)) s.n 0 = -1) := by kernel_rfl
theorem p109 (s : NSpan) (h : s.n < 4611686018427387904) : V109 s := by
 rw [ACN]
 simp only [CC, eq_self, implies_true, forall_const]
 refine ⟨⟨0, rfl, Nat.zero_le _, rfl⟩, λ a ⟨h1, h2⟩ => ⟨λ hlt => ?_, λ hge => ?_⟩⟩
 ·have hlt : a < s.n := by omega
  refine ⟨⟨by omega, by omega⟩, λ hp => ?_, λ hp => ⟨a + 1, (AN (by omega)).symm, ⟨by omega, ?_⟩, by omega⟩⟩
  ·rw [h2]; exact WM hlt (by simp [hp])
  ·rw [h2]; exact Hn hlt (by simp [hp])
 ·rw [h2]; exact Az (by omega)
theorem ADC : AI Try.prog 109 (C109.spec d109) := Ctr.spec_ok (λ (s : NSpan) h => NE (A := A109 s.n s.g) (ren := []) (fz := []) Try.func109 (by kernel_rfl) (AA ACZ AF) (p109 s (of_decide_eq_true h))) _
def C104 : Ctr := { C109 with val := λ s => .bool (decide (GQ (λ i => !CJ (s.g i)) s.n 0 >= 0)) }
def A104 := { ann 9 [(109, C109.spec d109)] with E := [100] }
def V104 (s : NSpan) : Prop := BC Try.prog A104 Try.f104 (AH Try.f104) (C104.xs s) (AE (C104.L s)) (C104.val s) (C104.keep s) [] []
theorem ACH (s : NSpan) : (V104 s) = ((s.n = s.n /\ (∀ (i : Nat), i < s.n -> (s.g i).lo = (s.g i).lo /\ (s.g i).hi = (s.g i).hi) /\ decide (s.n < 4611686018427387904) = true) /\ decide (GQ (λ (i : Nat) => !CJ (s.g i))
 s.n 0 >= 0) = decide (GQ (λ (i : Nat) => !CJ (s.g i)) s.n 0 >= 0)) := by kernel_rfl
def d104 : List AVal -> Heap -> Option (C104.α × List (Nat × Nat) × List Nat) := d109
theorem p104 (s : NSpan) (h : s.n < 4611686018427387904) : V104 s := by
 rw [ACH]; simp [h]
theorem ACX : AI Try.prog 104 (C104.spec d104) := Ctr.spec_ok (λ (s : NSpan) h => NE (A := A104) (ren := []) (fz := []) Try.func104 (by kernel_rfl) (AA ADC AF) (p104 s (of_decide_eq_true h))) _
def A80 := ann 9 [(104, C104.spec d104)]
def V80 (s : NSpan) : Prop := BC Try.prog A80 Try.f80 (AH Try.f80) [.d (Ec s.n s.g), .fn (.func 81) [] []] (AE []) (.bool (HP (λ i => CJ (s.g i)) s.n)) [] [] []
theorem vc80 (s : NSpan) : (V80 s) = ((s.n = s.n /\ (∀ (i : Nat), i < s.n -> (s.g i).lo = (s.g i).lo /\ (s.g i).hi = (s.g i).hi) /\ decide (s.n < 4611686018427387904) = true) /\ HP (λ (i : Nat) => CJ (s.g i)) s.n =
 !decide (GQ (λ (i : Nat) => !CJ (s.g i)) s.n 0 >= 0)) := by kernel_rfl
def f80 : List AVal -> Option (AVal × List Prop)
 | [.d (.list 2 n g _), .fn (.func 81) [] []] => some (.bool (HP (λ i => CJ (IC (g i))) n), [decide (n < 4611686018427387904) = true, ∀ i, i < n -> Dk (g i)])
 | _ => none
def s80 := DX f80
theorem p80 (s : NSpan) (h : s.n < 4611686018427387904) : V80 s := by
 rw [vc80]; simp only [CC, eq_self, implies_true, forall_const, ge_iff_le, Dz]; exact h
theorem ok80 : AI Try.prog 80 s80 := CE λ xs v p h hp => by
 unfold f80 at h; split at h
 ·rename_i n g e
  cases h
  obtain ⟨h1, h2⟩ := hp
  have := NE (A := A80) (L := []) (keep := []) (ren := []) (fz := []) Try.func80 (by kernel_rfl) (AA ACX AF) (p80 ⟨n, λ i => IC (g i)⟩ (of_decide_eq_true h1))
  exact this.weak ⟨Ij λ i hi => Gt (h2 i hi), ⟨rfl, trivial, trivial⟩, trivial⟩
 ·cases h
def NF (N : Net) (r : Reach) : Int := if (!inM r.fr 0 (N.nG - 1) || !inM r.to 0 (N.nG - 1)) || decide (r.fr = r.to) then 2 else if CJ r.sp then 0 else 90
def GE (e : Nat -> Int) : Nat -> Nat -> Int
 | 0, _ => 0
 | n + 1, k => if e k = 0 then GE e n (k + 1) else e k
def DE (N : Net) : Int := if !inM N.nG 1 8 || decide (14 < N.nR) then 3 else if HP (λ i => CJ (N.g i)) N.nG then GE (λ i => NF N (N.r i)) N.nR 0 else 90
theorem NJ {e : Nat -> Int} {n k : Nat} (hk : k < n) (h : e k ≠ 0) : GE e (n - k) k = e k := by
 obtain ⟨m, rfl⟩ : ∃ m, n = k + 1 + m := ⟨n - k - 1, by omega⟩
 rw [show k + 1 + m - k = m + 1 by omega]; simp [GE, h]
theorem Fp {e : Nat -> Int} {n k : Nat} (hk : k < n) (h : e k = 0) : GE e (n - k) k = GE e (n - (k + 1)) (k + 1) := by
 obtain ⟨m, rfl⟩ : ∃ m, n = k + 1 + m := ⟨n - k - 1, by omega⟩
 rw [show k + 1 + m - k = m + 1 by omega, show k + 1 + m - (k + 1) = m by omega]; simp [GE, h]
theorem Bi {e : Nat -> Int} {n k : Nat} (hk : n <= k) : GE e (n - k) k = 0 := by
 rw [show n - k = 0 by omega]; rfl
def bNet (N : Net) : AObj := .box [.d (Ec N.nG N.g), .d (Eh N.nR N.r)]
def A44 (N : Net) : Ann := { ann 61 [(62, Zt), (80, s80), (81, s81)] with loops := λ id => if id = 6 then some [{ α := Nat, dflt := 0, T := λ k => ⟨[(1, .bptr 1000 0), (23, .d (Eh N.nR N.r)), (24, .int N.nR), (25, .int k)], [(1000, .live (bNet N))]⟩, inv := λ k => k <= N.nR /\ N.nG <= 8 /\ N.nR <= 14 /\ DE N = GE (λ i => NF N (N.r i)) (N.nR - k) k, meas := λ k => N.nR - k }] else none }
def V44 (N : Net) : Prop := BC Try.prog (A44 N) Try.f44 (AH Try.f44) [.d (eNet N)] (AE []) (.int (DE N)) [] [] []
theorem vc44 (N : Net) : (V44 N) = (bif bif !inM (↑N.nG : Int) 1 8 then true else decide ((↑N.nR : Int) > 14) then DE N = 3 else (decide (N.nG < 4611686018427387904) = true /\ ∀ (i : Nat), i < N.nG -> True) /\ bif !HP
 (λ (i : Nat) => CJ (N.g i)) N.nG then DE N = 90 else (∃ (a : Nat), (N.nR = N.nR /\ (∀ (i : Nat), i < N.nR -> (N.r i).fr = (N.r i).fr /\ (N.r i).to = (N.r i).to /\ (N.r i).sp.lo = (N.r i).sp.lo /\ (N.r i).sp.hi = (N.r
 i).sp.hi) /\ (↑N.nR : Int) = (↑N.nR : Int) /\ (↑a : Int) = 0 /\ N.nG = N.nG /\ (∀ (i : Nat), i < N.nG -> (N.g i).lo = (N.g i).lo /\ (N.g i).hi = (N.g i).hi) /\ N.nR = N.nR /\ ∀ (i : Nat), i < N.nR -> (N.r i).fr = (N.r i).fr /\
 (N.r i).to = (N.r i).to /\ (N.r i).sp.lo = (N.r i).sp.lo /\ (N.r i).sp.hi = (N.r i).sp.hi) /\ a <= N.nR /\ N.nG <= 8 /\ N.nR <= 14 /\ DE N = GE (λ (i : Nat) => NF N (N.r i)) (N.nR - a) a) /\ ∀ (a : Nat), a <= N.nR /\
 N.nG <= 8 /\ N.nR <= 14 /\ DE N = GE (λ (i : Nat) => NF N (N.r i)) (N.nR - a) a -> bif decide ((↑a : Int) < (↑N.nR : Int)) then (0 <= (↑a : Int) /\ (↑a : Int) < (↑N.nR : Int)) /\ bif bif bif !inM (N.r a).fr 0
 (IntKind.i64.wrap ((↑N.nG : Int) - 1)) then true else !inM (N.r a).to 0 (IntKind.i64.wrap ((↑N.nG : Int) - 1)) then true else (N.r a).fr == (N.r a).to then DE N = 2 else bif !CJ (N.r a).sp then DE N = 90 else
 ∃ (a_2 : Nat), (N.nR = N.nR /\ (∀ (i : Nat), i < N.nR -> (N.r i).fr = (N.r i).fr /\ (N.r i).to = (N.r i).to /\ (N.r i).sp.lo = (N.r i).sp.lo /\ (N.r i).sp.hi = (N.r i).sp.hi) /\ (↑N.nR : Int) = (↑N.nR : Int) /\ (↑a_2 : Int) =
 IntKind.i64.wrap ((↑a : Int) + 1) /\ N.nG = N.nG /\ (∀ (i : Nat), i < N.nG -> (N.g i).lo = (N.g i).lo /\ (N.g i).hi = (N.g i).hi) /\ N.nR = N.nR /\ ∀ (i : Nat), i < N.nR -> (N.r i).fr = (N.r i).fr /\ (N.r i).to = (N.r i).to /\
 (N.r i).sp.lo = (N.r i).sp.lo /\ (N.r i).sp.hi = (N.r i).sp.hi) /\ (a_2 <= N.nR /\ N.nG <= 8 /\ N.nR <= 14 /\ DE N = GE (λ (i : Nat) => NF N (N.r i)) (N.nR - a_2) a_2) /\ N.nR - a_2 < N.nR - a else DE N = 0) := by
 kernel_rfl
def f44 : List AVal -> Option (AVal × List Prop)
 | [.d (.agg [.list 2 nG g _, .list 4 nR r _])] => some (.int (DE ⟨nG, λ i => IC (g i), nR, λ i => FM (r i)⟩), [∀ i, i < nG -> Dk (g i), ∀ i, i < nR -> As (r i)])
 | _ => none
def s44 := DX f44
theorem p44 (N : Net) : V44 N := by
 simp only [vc44, CC, eq_self, implies_true, forall_const]
 refine ⟨λ h => ?_, λ h => ?_⟩
 ·have h : (!inM N.nG 1 8 || decide (14 < N.nR)) = true := by
   rw [<- h]; cases inM N.nG 1 8 <;> simp <;> omega
  simp only [DE, h, if_true]
 have h' : (!inM N.nG 1 8 || decide (14 < N.nR)) = false := by
  rw [<- h]; cases inM N.nG 1 8 <;> simp <;> omega
 have hb : N.nG <= 8 /\ 1 <= N.nG /\ N.nR <= 14 := by
  simp only [Bool.or_eq_false_iff, Bool.not_eq_false', decide_eq_false_iff_not, inM, Bool.and_eq_true, decide_eq_true_eq] at h'
  omega
 refine ⟨by omega, λ h2 => ?_, λ h2 => ?_⟩
 ·have h2 : HP (λ i => CJ (N.g i)) N.nG = false := by simpa using h2
  simp [DE, h', h2]
 have h2 : HP (λ i => CJ (N.g i)) N.nG = true := by simpa using h2
 refine ⟨⟨0, rfl, Nat.zero_le _, hb.1, hb.2.2, ?_⟩, λ a ⟨h3, _, _, h4⟩ => ⟨λ hlt => ?_, λ hge => ?_⟩⟩
 ·simp [DE, h', h2]
 ·have hw : IntKind.i64.wrap ((N.nG : Int) - 1) = (N.nG : Int) - 1 := LO (by omega) (by omega)
  have hlt : a < N.nR := by omega
  simp only [hw]
  refine ⟨⟨by omega, by omega⟩, λ h5 => ?_, λ h5 => ⟨λ h6 => ?_, λ h6 => ⟨a + 1, (AN (by omega)).symm, ⟨by omega, hb.1, hb.2.2, ?_⟩, by omega⟩⟩⟩
  ·have e : NF N (N.r a) = 2 := by
    unfold NF; rw [if_pos]; rw [<- h5]
    cases inM (N.r a).fr 0 (N.nG - 1) <;> cases inM (N.r a).to 0 (N.nG - 1) <;> simp [Bool.beq_eq_decide_eq]
   rw [h4, NJ hlt (by rw [e]; decide), e]
  all_goals
   have e0 : ((!inM (N.r a).fr 0 (N.nG - 1) || !inM (N.r a).to 0 (N.nG - 1)) || decide ((N.r a).fr = (N.r a).to)) = false := by
    rw [<- h5]
    cases inM (N.r a).fr 0 (N.nG - 1) <;> cases inM (N.r a).to 0 (N.nG - 1) <;> simp [Bool.beq_eq_decide_eq]
  ·have h6 : CJ (N.r a).sp = false := by simpa using h6
   have e : NF N (N.r a) = 90 := by unfold NF; rw [e0, h6]; rfl
   rw [h4, NJ hlt (by rw [e]; decide), e]
  ·have h6 : CJ (N.r a).sp = true := by simpa using h6
   have e : NF N (N.r a) = 0 := by unfold NF; rw [e0, h6]; rfl
   rw [h4]; exact Fp hlt e
 ·rw [h4]; exact Bi (by omega)
theorem Wx {nG nR : Nat} {g r : Nat -> DVal} {a b : Bool} (hg : ∀ i, i < nG -> Dk (g i)) (hr : ∀ i, i < nR -> As (r i)) : DC (eNet ⟨nG, λ i => IC (g i), nR, λ i => FM (r i)⟩) (.agg [.list 2 nG g a, .list 4 nR r b]) := by
 simp only [eNet, DC, HW]
 exact ⟨Ij λ i hi => Gt (hg i hi), Ij λ i hi => Mt (hr i hi), trivial⟩
theorem Jt : AI Try.prog 44 s44 := CE λ xs v p h hp => by
 unfold f44 at h; split at h
 ·rename_i nG g e1 nR r e2
  cases h
  obtain ⟨h1, h2⟩ := hp
  have := NE (L := []) (keep := []) (ren := []) (fz := []) Try.func44 (by kernel_rfl) (AA Hm (AA ok80 (AA ok81 AF))) (p44 ⟨nG, λ i => IC (g i), nR, λ i => FM (r i)⟩)
  exact this.weak (AAQ (Wx h1 h2))
 ·cases h
end Go.Bal
