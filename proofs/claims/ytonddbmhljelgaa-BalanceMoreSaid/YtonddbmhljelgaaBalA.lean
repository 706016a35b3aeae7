/- Package balance: in, flowing, every over spans. -/
import Derived.Test.YtonddbmhljelgaaBal0
set_option linter.unusedVariables false
set_option linter.unusedSimpArgs false
namespace Go.Bal
open Go Go.Sym Go.Proofs
def GD (a b c : Int) : Bool := decide (b <= a) && decide (a <= c)
def CX (s : Span) : Bool := GD s.lo (-1000000) s.hi && GD s.hi (-1000000) 1000000
def HN (p : Nat -> Bool) : Nat -> Bool
 | 0 => true
 | n + 1 => HN p n && p n
theorem JQ {p : Nat -> Bool} : ∀ {n : Nat}, HN p n = true ↔ ∀ i, i < n -> p i = true
 | 0 => by simp [HN]
 | n + 1 => by
  simp only [HN, Bool.and_eq_true, JQ (n := n)]
  constructor
  ·intro h i hi
   by_cases he : i = n
   ·subst he; exact h.2
   ·exact h.1 i (by omega)
  ·exact λ h => ⟨λ i hi => h i (by omega), h n (by omega)⟩
theorem Nl {p : Nat -> Bool} : ∀ {n k : Nat}, (0 <= GC p n k) ↔ ∃ i, k <= i /\ i < k + n /\ p i = true
 | 0, k => by simp [GC]; omega
 | n + 1, k => by
  simp only [GC]
  by_cases h : p k = true
  ·rw [if_pos h]
   constructor
   ·intro _; exact ⟨k, Nat.le_refl _, by omega, h⟩
   ·intro _; omega
  ·rw [if_neg h, Nl (n := n) (k := k + 1)]
   constructor
   ·rintro ⟨i, h1, h2, h3⟩; exact ⟨i, by omega, by omega, h3⟩
   ·rintro ⟨i, h1, h2, h3⟩
    refine ⟨i, ?_, by omega, h3⟩
    by_cases he : i = k
    ·subst he; exact absurd h3 h
    ·omega
theorem ZP {p : Nat -> Bool} {n : Nat} : (!decide (0 <= GC (λ i => !p i) n 0)) = HN p n := by
 rw [Bool.eq_iff_iff, JQ]
 simp only [Bool.not_eq_true', decide_eq_false_iff_not, Nl, Nat.zero_le, Nat.zero_add, true_and]
 constructor
 ·intro h i hi
  cases hp : p i with
  | true => rfl
  | false => exact (h ⟨i, hi, by simp [hp]⟩).elim
 ·rintro h ⟨i, hi, hp⟩
  rw [h i hi] at hp; cases hp
def V62 (a b d : Int) : Prop := BM Try.prog (ann 15 []) Try.f62 (AJ Try.f62) [.int a, .int b, .int d] (AE []) (.bool (GD a b d)) [] [] []
theorem vc62 (a : Int) (b : Int) (d : Int) : (V62 a b d) = (GD a b d = bif decide (a >= b) then decide (a <= d) else false) := by kernel_rfl
def f62 : List AVal -> Option (AVal × List Prop)
 | [.d (.v (.int .i64 a)), .d (.v (.int .i64 b)), .d (.v (.int .i64 c))] => some (.bool (GD a b c), [])
 | _ => none
def Us := FF f62
theorem c62 (a b d : Int) : FnT Try.prog 62 [.int a, .int b, .int d] (AE []) (.bool (GD a b d)) [] := by
 refine RX (A := ann 15 []) (ren := []) (fz := []) Try.func62 (by kernel_rfl) (AH) ?_
 show V62 a b d
 rw [vc62]
 unfold GD
 by_cases h : b <= a <;> simp [h]
theorem Rm : AL Try.prog 62 Us := DO λ xs v p h _ => by
 unfold f62 at h; split at h
 ·cases h; exact c62 _ _ _
 ·cases h
def A81 := ann 13 [(62, Us)]
def V81 (s : Span) : Prop := BM Try.prog A81 Try.f81 (AJ Try.f81) [.d (JU s)] (AE []) (.bool (CX s)) [] [] []
theorem vc81 (s : Span) : (V81 s) = (CX s = bif GD s.lo (-1000000) s.hi then GD s.hi (-1000000) 1000000 else false) := by kernel_rfl
def f81 : List AVal -> Option (AVal × List Prop)
 | [.d (.agg [.v (.int .i64 a), .v (.int .i64 b)])] => some (.bool (CX ⟨a, b⟩), [])
 | _ => none
def s81 := FF f81
theorem c81 (s : Span) : FnT Try.prog 81 [.d (JU s)] (AE []) (.bool (CX s)) [] := by
 refine RX (A := A81) (ren := []) (fz := []) Try.func81 (by kernel_rfl) (AB Rm AH) ?_
 show V81 s
 rw [vc81]
 unfold CX
 cases GD s.lo (-1000000) s.hi <;> simp
theorem Yp : AL Try.prog 81 s81 := DO λ xs v p h _ => by
 unfold f81 at h; split at h
 ·cases h; exact c81 ⟨_, _⟩
 ·cases h
def Vd : AObj := .box [.fn (.func 81) [] []]
def C105 : Ctr := { ro := [100], α := Span, xs := λ s => [.d (JU s), .bptr 100 0], L := λ _ => [(100, Vd)], val := λ s => .bool (!CX s), keep := λ _ => [(100, .live Vd)] }
def Vf : List AVal -> Heap -> Option (Span × List (Nat × Nat) × List Nat)
 | [.d d, .bptr id _], _ => some (HH d, [(100, id)], [])
 | _, _ => none
def We := { ann 8 [(81, s81)] with E := [100] }
def Vk (s : Span) : Prop := BM Try.prog We Try.f105 (AJ Try.f105) (C105.xs s) (AE (C105.L s)) (C105.val s) (C105.keep s) [] []
theorem Ux (s : Span) : (Vk s) = ((!CX s) = !CX s) := by kernel_rfl
theorem p105 (s : Span) : Vk s := by rw [Ux]
theorem Wf : AL Try.prog 105 (C105.spec Vf) := Ctr.spec_ok (λ (s : Span) _ => RX (A := We) (ren := []) (fz := []) Try.func105 (by kernel_rfl) (AB Yp AH) (p105 s)) _
def Yv (n : Nat) (g : Nat -> Span) : Ann := { ann 19 [(105, C105.spec Vf)] with E := [100], loops := λ id => if id = 2 then some [{ α := Nat, dflt := 0, T := λ k => ⟨[(0, .d (Ad n g)), (1, .fn (.func 105) [] [.bptr 100 0]), (7, .int n), (8, .int k)], [(100, .live Vd)]⟩, inv := λ k => k <= n /\ GC (λ i => !CX (g i)) n 0 = GC (λ i => !CX (g i)) (n - k) k, meas := λ k => n - k }] else none }
structure NSpan where
 n : Nat
 g : Nat -> Span
def C109 : Ctr := { ro := [100], α := NSpan, xs := λ s => [.d (Ad s.n s.g), .fn (.func 105) [] [.bptr 100 0]], L := λ _ => [(100, Vd)], val := λ s => .int (GC (λ i => !CX (s.g i)) s.n 0), keep := λ _ => [(100, .live Vd)], pre := λ s => [decide (s.n < 4611686018427387904) = true] }
def Ss : List AVal -> Heap -> Option (NSpan × List (Nat × Nat) × List Nat)
 | [.d (.list _ n g _), .fn _ _ [.bptr id _]], _ => some (⟨n, λ i => HH (g i)⟩, [(100, id)], [])
 | _, _ => none
def Wt (s : NSpan) : Prop := BM Try.prog (Yv s.n s.g) Try.f109 (AJ Try.f109) (C109.xs s) (AE (C109.L s)) (C109.val s) (C109.keep s) [] []
theorem Vz (s : NSpan) : (Wt s) = ((∃ (a : Nat), (s.n = s.n /\ (∀ (i : Nat), i < s.n -> (s.g i).lo = (s.g i).lo /\ (s.g i).hi = (s.g i).hi) /\ (↑s.n : Int) = (↑s.n : Int) /\ (↑a : Int) = 0) /\ a <= s.n /\ GC (λ (i : Nat)
 => !CX (s.g i)) s.n 0 = GC (λ (i : Nat) => !CX (s.g i)) (s.n - a) a) /\ ∀ (a : Nat), a <= s.n /\ GC (λ (i : Nat) => !CX (s.g i)) s.n 0 = GC (λ (i : Nat) => !CX (s.g i)) (s.n - a) a -> bif decide ((↑a :
 Int) < (↑s.n : Int)) then ((0 <= (↑a : Int) /\ (↑a : Int) < (↑s.n : Int)) /\ (s.g a).lo = (s.g a).lo /\ (s.g a).hi = (s.g a).hi) /\ bif !CX (s.g a) then GC (λ (i : Nat) => !CX (s.g i)) s.n 0 = (↑a : Int) else ∃ (a_2
 : Nat), (s.n = s.n /\ (∀ (i : Nat), i < s.n -> (s.g i).lo = (s.g i).lo /\ (s.g i).hi = (s.g i).hi) /\ (↑s.n : Int) = (↑s.n : Int) /\ (↑a_2 : Int) = IntKind.i64.wrap ((↑a : Int) + 1)) /\ (a_2 <= s.n /\ GC (λ (i : Nat) =>
 !CX (s.g i)) s.n 0 = GC (λ (i : Nat) => !CX (s.g i)) (s.n - a_2) a_2) /\ s.n - a_2 < s.n - a else GC (λ (i : Nat) => !CX (s.g i)) s.n 0 = -1) := by kernel_rfl
theorem p109 (s : NSpan) (h : s.n < 4611686018427387904) : Wt s := by
 rw [Vz]
 simp only [CC, eq_self, implies_true, forall_const]
 refine ⟨⟨0, rfl, Nat.zero_le _, rfl⟩, λ a ⟨h1, h2⟩ => ⟨λ hlt => ?_, λ hge => ?_⟩⟩
 ·have hlt : a < s.n := by omega
  refine ⟨⟨by omega, by omega⟩, λ hp => ?_, λ hp => ⟨a + 1, (BB (by omega)).symm, ⟨by omega, ?_⟩, by omega⟩⟩
  ·rw [h2]; exact UU hlt (by simp [hp])
  ·rw [h2]; exact Dz hlt (by simp [hp])
 ·rw [h2]; exact YI (by omega)
theorem Va : AL Try.prog 109 (C109.spec Ss) := Ctr.spec_ok (λ (s : NSpan) h => RX (A := Yv s.n s.g) (ren := []) (fz := []) Try.func109 (by kernel_rfl) (AB Wf AH) (p109 s (of_decide_eq_true h))) _
def C104 : Ctr := { C109 with val := λ s => .bool (decide (GC (λ i => !CX (s.g i)) s.n 0 >= 0)) }
def Wi := { ann 9 [(109, C109.spec Ss)] with E := [100] }
def Vl (s : NSpan) : Prop := BM Try.prog Wi Try.f104 (AJ Try.f104) (C104.xs s) (AE (C104.L s)) (C104.val s) (C104.keep s) [] []
theorem Xv (s : NSpan) : (Vl s) = ((s.n = s.n /\ (∀ (i : Nat), i < s.n -> (s.g i).lo = (s.g i).lo /\ (s.g i).hi = (s.g i).hi) /\ decide (s.n < 4611686018427387904) = true) /\ decide (GC (λ (i : Nat) => !CX (s.g i))
 s.n 0 >= 0) = decide (GC (λ (i : Nat) => !CX (s.g i)) s.n 0 >= 0)) := by kernel_rfl
def Xo : List AVal -> Heap -> Option (C104.α × List (Nat × Nat) × List Nat) := Ss
theorem p104 (s : NSpan) (h : s.n < 4611686018427387904) : Vl s := by
 rw [Xv]; simp [h]
theorem Yw : AL Try.prog 104 (C104.spec Xo) := Ctr.spec_ok (λ (s : NSpan) h => RX (A := Wi) (ren := []) (fz := []) Try.func104 (by kernel_rfl) (AB Va AH) (p104 s (of_decide_eq_true h))) _
def A80 := ann 9 [(104, C104.spec Xo)]
def V80 (s : NSpan) : Prop := BM Try.prog A80 Try.f80 (AJ Try.f80) [.d (Ad s.n s.g), .fn (.func 81) [] []] (AE []) (.bool (HN (λ i => CX (s.g i)) s.n)) [] [] []
theorem vc80 (s : NSpan) : (V80 s) = ((s.n = s.n /\ (∀ (i : Nat), i < s.n -> (s.g i).lo = (s.g i).lo /\ (s.g i).hi = (s.g i).hi) /\ decide (s.n < 4611686018427387904) = true) /\ HN (λ (i : Nat) => CX (s.g i)) s.n =
 !decide (GC (λ (i : Nat) => !CX (s.g i)) s.n 0 >= 0)) := by kernel_rfl
def f80 : List AVal -> Option (AVal × List Prop)
 | [.d (.list 2 n g _), .fn (.func 81) [] []] => some (.bool (HN (λ i => CX (HH (g i))) n), [decide (n < 4611686018427387904) = true, ∀ i, i < n -> Ao (g i)])
 | _ => none
def s80 := FF f80
theorem p80 (s : NSpan) (h : s.n < 4611686018427387904) : V80 s := by
 rw [vc80]; simp only [CC, eq_self, implies_true, forall_const, ge_iff_le, ZP]; exact h
theorem ok80 : AL Try.prog 80 s80 := DO λ xs v p h hp => by
 unfold f80 at h; split at h
 ·rename_i n g e
  cases h
  obtain ⟨h1, h2⟩ := hp
  have := RX (A := A80) (L := []) (keep := []) (ren := []) (fz := []) Try.func80 (by kernel_rfl) (AB Yw AH) (p80 ⟨n, λ i => HH (g i)⟩ (of_decide_eq_true h1))
  exact this.weak ⟨Ek λ i hi => Cn (h2 i hi), ⟨rfl, trivial, trivial⟩, trivial⟩
 ·cases h
def TV (N : Net) (r : Reach) : Int := if (!GD r.fr 0 (N.nG - 1) || !GD r.to 0 (N.nG - 1)) || decide (r.fr = r.to) then 2 else if CX r.sp then 0 else 90
def GE (e : Nat -> Int) : Nat -> Nat -> Int
 | 0, _ => 0
 | n + 1, k => if e k = 0 then GE e n (k + 1) else e k
def EM (N : Net) : Int := if !GD N.nG 1 8 || decide (14 < N.nR) then 3 else if HN (λ i => CX (N.g i)) N.nG then GE (λ i => TV N (N.r i)) N.nR 0 else 90
theorem WR {e : Nat -> Int} {n k : Nat} (hk : k < n) (h : e k ≠ 0) : GE e (n - k) k = e k := by
 obtain ⟨m, rfl⟩ : ∃ m, n = k + 1 + m := ⟨n - k - 1, by omega⟩
 rw [show k + 1 + m - k = m + 1 by omega]; simp [GE, h]
theorem Lv {e : Nat -> Int} {n k : Nat} (hk : k < n) (h : e k = 0) : GE e (n - k) k = GE e (n - (k + 1)) (k + 1) := by
 obtain ⟨m, rfl⟩ : ∃ m, n = k + 1 + m := ⟨n - k - 1, by omega⟩
 rw [show k + 1 + m - k = m + 1 by omega, show k + 1 + m - (k + 1) = m by omega]; simp [GE, h]
theorem Ja {e : Nat -> Int} {n k : Nat} (hk : n <= k) : GE e (n - k) k = 0 := by
 rw [show n - k = 0 by omega]; rfl
def bNet (N : Net) : AObj := .box [.d (Ad N.nG N.g), .d (YU N.nR N.r)]
def A44 (N : Net) : Ann := { ann 61 [(62, Us), (80, s80), (81, s81)] with loops := λ id => if id = 6 then some [{ α := Nat, dflt := 0, T := λ k => ⟨[(1, .bptr 1000 0), (23, .d (YU N.nR N.r)), (24, .int N.nR), (25, .int k)], [(1000, .live (bNet N))]⟩, inv := λ k => k <= N.nR /\ N.nG <= 8 /\ N.nR <= 14 /\ EM N = GE (λ i => TV N (N.r i)) (N.nR - k) k, meas := λ k => N.nR - k }] else none }
def V44 (N : Net) : Prop := BM Try.prog (A44 N) Try.f44 (AJ Try.f44) [.d (Sx N)] (AE []) (.int (EM N)) [] [] []
theorem vc44 (N : Net) : (V44 N) = (bif bif !GD (↑N.nG : Int) 1 8 then true else decide ((↑N.nR : Int) > 14) then EM N = 3 else (decide (N.nG < 4611686018427387904) = true /\ ∀ (i : Nat), i < N.nG -> True) /\ bif !HN
 (λ (i : Nat) => CX (N.g i)) N.nG then EM N = 90 else (∃ (a : Nat), (N.nR = N.nR /\ (∀ (i : Nat), i < N.nR -> (N.r i).fr = (N.r i).fr /\ (N.r i).to = (N.r i).to /\ (N.r i).sp.lo = (N.r i).sp.lo /\ (N.r i).sp.hi = (N.r
 i).sp.hi) /\ (↑N.nR : Int) = (↑N.nR : Int) /\ (↑a : Int) = 0 /\ N.nG = N.nG /\ (∀ (i : Nat), i < N.nG -> (N.g i).lo = (N.g i).lo /\ (N.g i).hi = (N.g i).hi) /\ N.nR = N.nR /\ ∀ (i : Nat), i < N.nR -> (N.r i).fr = (N.r i).fr /\
 (N.r i).to = (N.r i).to /\ (N.r i).sp.lo = (N.r i).sp.lo /\ (N.r i).sp.hi = (N.r i).sp.hi) /\ a <= N.nR /\ N.nG <= 8 /\ N.nR <= 14 /\ EM N = GE (λ (i : Nat) => TV N (N.r i)) (N.nR - a) a) /\ ∀ (a : Nat), a <= N.nR /\
 N.nG <= 8 /\ N.nR <= 14 /\ EM N = GE (λ (i : Nat) => TV N (N.r i)) (N.nR - a) a -> bif decide ((↑a : Int) < (↑N.nR : Int)) then (0 <= (↑a : Int) /\ (↑a : Int) < (↑N.nR : Int)) /\ bif bif bif !GD (N.r a).fr 0
 (IntKind.i64.wrap ((↑N.nG : Int) - 1)) then true else !GD (N.r a).to 0 (IntKind.i64.wrap ((↑N.nG : Int) - 1)) then true else (N.r a).fr == (N.r a).to then EM N = 2 else bif !CX (N.r a).sp then EM N = 90 else
 ∃ (a_2 : Nat), (N.nR = N.nR /\ (∀ (i : Nat), i < N.nR -> (N.r i).fr = (N.r i).fr /\ (N.r i).to = (N.r i).to /\ (N.r i).sp.lo = (N.r i).sp.lo /\ (N.r i).sp.hi = (N.r i).sp.hi) /\ (↑N.nR : Int) = (↑N.nR : Int) /\ (↑a_2 : Int) =
 IntKind.i64.wrap ((↑a : Int) + 1) /\ N.nG = N.nG /\ (∀ (i : Nat), i < N.nG -> (N.g i).lo = (N.g i).lo /\ (N.g i).hi = (N.g i).hi) /\ N.nR = N.nR /\ ∀ (i : Nat), i < N.nR -> (N.r i).fr = (N.r i).fr /\ (N.r i).to = (N.r i).to /\
 (N.r i).sp.lo = (N.r i).sp.lo /\ (N.r i).sp.hi = (N.r i).sp.hi) /\ (a_2 <= N.nR /\ N.nG <= 8 /\ N.nR <= 14 /\ EM N = GE (λ (i : Nat) => TV N (N.r i)) (N.nR - a_2) a_2) /\ N.nR - a_2 < N.nR - a else EM N = 0) := by
 kernel_rfl
def f44 : List AVal -> Option (AVal × List Prop)
 | [.d (.agg [.list 2 nG g _, .list 4 nR r _])] => some (.int (EM ⟨nG, λ i => HH (g i), nR, λ i => ET (r i)⟩), [∀ i, i < nG -> Ao (g i), ∀ i, i < nR -> YG (r i)])
 | _ => none
def Yx := FF f44
theorem p44 (N : Net) : V44 N := by
 simp only [vc44, CC, eq_self, implies_true, forall_const]
 refine ⟨λ h => ?_, λ h => ?_⟩
 ·have h : (!GD N.nG 1 8 || decide (14 < N.nR)) = true := by
   rw [<- h]; cases GD N.nG 1 8 <;> simp <;> omega
  simp only [EM, h, if_true]
 have h' : (!GD N.nG 1 8 || decide (14 < N.nR)) = false := by
  rw [<- h]; cases GD N.nG 1 8 <;> simp <;> omega
 have hb : N.nG <= 8 /\ 1 <= N.nG /\ N.nR <= 14 := by
  simp only [Bool.or_eq_false_iff, Bool.not_eq_false', decide_eq_false_iff_not, GD, Bool.and_eq_true, decide_eq_true_eq] at h'
  omega
 refine ⟨by omega, λ h2 => ?_, λ h2 => ?_⟩
 ·have h2 : HN (λ i => CX (N.g i)) N.nG = false := by simpa using h2
  simp [EM, h', h2]
 have h2 : HN (λ i => CX (N.g i)) N.nG = true := by simpa using h2
 refine ⟨⟨0, rfl, Nat.zero_le _, hb.1, hb.2.2, ?_⟩, λ a ⟨h3, _, _, h4⟩ => ⟨λ hlt => ?_, λ hge => ?_⟩⟩
 ·simp [EM, h', h2]
 ·have hw : IntKind.i64.wrap ((N.nG : Int) - 1) = (N.nG : Int) - 1 := OT (by omega) (by omega)
  have hlt : a < N.nR := by omega
  simp only [hw]
  refine ⟨⟨by omega, by omega⟩, λ h5 => ?_, λ h5 => ⟨λ h6 => ?_, λ h6 => ⟨a + 1, (BB (by omega)).symm, ⟨by omega, hb.1, hb.2.2, ?_⟩, by omega⟩⟩⟩
  ·have e : TV N (N.r a) = 2 := by
    unfold TV; rw [if_pos]; rw [<- h5]
    cases GD (N.r a).fr 0 (N.nG - 1) <;> cases GD (N.r a).to 0 (N.nG - 1) <;> simp [Bool.beq_eq_decide_eq]
   rw [h4, WR hlt (by rw [e]; decide), e]
  all_goals
   have e0 : ((!GD (N.r a).fr 0 (N.nG - 1) || !GD (N.r a).to 0 (N.nG - 1)) || decide ((N.r a).fr = (N.r a).to)) = false := by
    rw [<- h5]
    cases GD (N.r a).fr 0 (N.nG - 1) <;> cases GD (N.r a).to 0 (N.nG - 1) <;> simp [Bool.beq_eq_decide_eq]
  ·have h6 : CX (N.r a).sp = false := by simpa using h6
   have e : TV N (N.r a) = 90 := by unfold TV; rw [e0, h6]; rfl
   rw [h4, WR hlt (by rw [e]; decide), e]
  ·have h6 : CX (N.r a).sp = true := by simpa using h6
   have e : TV N (N.r a) = 0 := by unfold TV; rw [e0, h6]; rfl
   rw [h4]; exact Lv hlt e
 ·rw [h4]; exact Ja (by omega)
theorem Pj {nG nR : Nat} {g r : Nat -> DVal} {a b : Bool} (hg : ∀ i, i < nG -> Ao (g i)) (hr : ∀ i, i < nR -> YG (r i)) : CO (Sx ⟨nG, λ i => HH (g i), nR, λ i => ET (r i)⟩) (.agg [.list 2 nG g a, .list 4 nR r b]) := by
 simp only [Sx, CO, HD]
 exact ⟨Ek λ i hi => Cn (hg i hi), Ek λ i hi => Hw (hr i hi), trivial⟩
theorem Ul : AL Try.prog 44 Yx := DO λ xs v p h hp => by
 unfold f44 at h; split at h
 ·rename_i nG g e1 nR r e2
  cases h
  obtain ⟨h1, h2⟩ := hp
  have := RX (L := []) (keep := []) (ren := []) (fz := []) Try.func44 (by kernel_rfl) (AB Rm (AB ok80 (AB Yp AH))) (p44 ⟨nG, λ i => HH (g i), nR, λ i => ET (r i)⟩)
  exact this.weak (Sm (Pj h1 h2))
 ·cases h
end Go.Bal
