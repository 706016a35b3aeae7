/- Package rating: ends of spans. -/
import Derived.Test.YtoihhodbkimedaaRatB
set_option linter.unusedVariables false
set_option linter.unusedSimpArgs false
namespace Go.Bal
open Go Go.Sym Go.Proofs
structure PP where
 l : List Pt
 p : Pt
def eqP (p q : Pt) : Bool := p.st == q.st && p.fl == q.fl
def dPP : List AVal -> Heap -> Option (PP × List (Nat × Nat) × List Nat)
 | [y, .d p], H => match dPts y H with
  | some (l, f) => some (⟨l, dPt p⟩, [], f)
  | none => none
 | _, _ => none
def xPP (a : PP) : List AVal := [.d (ePts a.l), .d (ePt a.p)]
def C_idxP : Ctr := { α := PP, xs := xPP, L := λ _ => [], val := λ a => .int (idx (λ i => eqP a.p (gD a.l i)) a.l.length 0), keep := λ _ => [], pre := λ a => [a.l.length < 4611686018427387904 /\ True] }
def A_idxP (a : PP) : Ann := { ann 19 [] with loops := λ id => if id = 2 then some [{ α := Nat, dflt := 0, T := λ k => ⟨[(0, .d (ePts a.l)), (3, .bptr 201 0), (7, .int a.l.length), (8, .int k)], [(201, .live (.box [.int a.p.st, .int a.p.fl]))]⟩, inv := λ k => k <= a.l.length /\ idx (λ i => eqP a.p (gD a.l i)) a.l.length 0 = idx (λ i => eqP a.p (gD a.l i)) (a.l.length - k) k, meas := λ k => a.l.length - k, first := [(201, 1000)] }] else none }
def V_idxP (a : PP) : Prop := fnVC Try.prog (A_idxP a) F_idxP (bodyOf F_idxP) (xPP a) (heapOf []) (C_idxP.val a) [] [] []
theorem vc_idxP (a : PP) : (V_idxP a) = ((∃ (a_1 : Nat), (a.l.length = a.l.length /\ (∀ (i : Nat), i < a.l.length -> (gD a.l i).st = (gD a.l i).st /\ (gD a.l i).fl = (gD a.l i).fl) /\ (↑a.l.length : Int) = (↑a.l.length :
 Int) /\ (↑a_1 : Int) = 0 /\ a.p.st = a.p.st /\ a.p.fl = a.p.fl) /\ a_1 <= a.l.length /\ idx (λ (i : Nat) => eqP a.p (gD a.l i)) a.l.length 0 = idx (λ (i : Nat) => eqP a.p (gD a.l i)) (a.l.length - a_1) a_1) /\ ∀ (a_1 :
 Nat), a_1 <= a.l.length /\ idx (λ (i : Nat) => eqP a.p (gD a.l i)) a.l.length 0 = idx (λ (i : Nat) => eqP a.p (gD a.l i)) (a.l.length - a_1) a_1 -> bif decide ((↑a_1 : Int) < (↑a.l.length : Int)) then (0 <= (↑a_1 : Int)
 /\ (↑a_1 : Int) < (↑a.l.length : Int)) /\ bif a.p.st == (gD a.l a_1).st && (a.p.fl == (gD a.l a_1).fl && true) then idx (λ (i : Nat) => eqP a.p (gD a.l i)) a.l.length 0 = (↑a_1 : Int) else ∃ (a_3 : Nat), (a.l.length =
 a.l.length /\ (∀ (i : Nat), i < a.l.length -> (gD a.l i).st = (gD a.l i).st /\ (gD a.l i).fl = (gD a.l i).fl) /\ (↑a.l.length : Int) = (↑a.l.length : Int) /\ (↑a_3 : Int) = IntKind.i64.wrap ((↑a_1 : Int) + 1) /\ a.p.st =
 a.p.st /\ a.p.fl = a.p.fl) /\ (a_3 <= a.l.length /\ idx (λ (i : Nat) => eqP a.p (gD a.l i)) a.l.length 0 = idx (λ (i : Nat) => eqP a.p (gD a.l i)) (a.l.length - a_3) a_3) /\ a.l.length - a_3 < a.l.length - a_1 else idx
 (λ (i : Nat) => eqP a.p (gD a.l i)) a.l.length 0 = -1) := by kernel_rfl
def rowP (l : List Pt) : AObj := .row 2 l.length λ i => ePt (gD l i)
def xPo (a : PP) : List AVal := [.own 100 2 0 a.l.length, .d (ePt a.p)]
def dPo : List AVal -> Heap -> Option (PP × List (Nat × Nat) × List Nat)
 | [.own id _ _ n, .d p], H => match H id with
  | .live (.row _ _ g) => some (⟨rng n λ i => dPt (g i), dPt p⟩, [(100, id)], [])
  | _ => none
 | _, _ => none
def C_idxO : Ctr := { ro := [100], α := PP, xs := xPo, L := λ a => [(100, rowP a.l)], val := λ a => .int (idx (λ i => eqP a.p (gD a.l i)) a.l.length 0), keep := λ a => [(100, .live (rowP a.l))], pre := λ a => [a.l.length < 4611686018427387904 /\ True] }
def A_idxO (a : PP) : Ann := { ann 19 [] with E := [100], loops := λ id => if id = 2 then some [{ α := Nat, dflt := 0, T := λ k => ⟨[(0, .own 100 2 0 a.l.length), (3, .bptr 201 0), (7, .int a.l.length), (8, .int k)], [(100, .live (rowP a.l)), (201, .live (.box [.int a.p.st, .int a.p.fl]))]⟩, inv := λ k => k <= a.l.length /\ idx (λ i => eqP a.p (gD a.l i)) a.l.length 0 = idx (λ i => eqP a.p (gD a.l i)) (a.l.length - k) k, meas := λ k => a.l.length - k, first := [(201, 1000)] }] else none }
def V_idxO (a : PP) : Prop := fnVC Try.prog (A_idxO a) F_idxP (bodyOf F_idxP) (xPo a) (heapOf (C_idxO.L a)) (C_idxO.val a) (C_idxO.keep a) [] []
theorem vc_idxO (a : PP) : (V_idxO a) = ((∃ (a_1 : Nat), (0 = 0 /\ a.l.length = a.l.length /\ (↑a.l.length : Int) = (↑a.l.length : Int) /\ (↑a_1 : Int) = 0 /\ a.l.length = a.l.length /\ (∀ (i : Nat), i < a.l.length -> (gD a.l
 i).st = (gD a.l i).st /\ (gD a.l i).fl = (gD a.l i).fl) /\ a.p.st = a.p.st /\ a.p.fl = a.p.fl) /\ a_1 <= a.l.length /\ idx (λ (i : Nat) => eqP a.p (gD a.l i)) a.l.length 0 = idx (λ (i : Nat) => eqP a.p (gD a.l i))
 (a.l.length - a_1) a_1) /\ ∀ (a_1 : Nat), a_1 <= a.l.length /\ idx (λ (i : Nat) => eqP a.p (gD a.l i)) a.l.length 0 = idx (λ (i : Nat) => eqP a.p (gD a.l i)) (a.l.length - a_1) a_1 -> bif decide ((↑a_1 : Int) <
 (↑a.l.length : Int)) then ((0 <= (↑a_1 : Int) /\ (↑a_1 : Int) < (↑a.l.length : Int)) /\ (0 + a_1).succ.le a.l.length) /\ bif a.p.st == (gD a.l (0 + a_1)).st && (a.p.fl == (gD a.l (0 + a_1)).fl && true) then idx (λ (i :
 Nat) => eqP a.p (gD a.l i)) a.l.length 0 = (↑a_1 : Int) /\ a.l.length = a.l.length /\ ∀ (i : Nat), i < a.l.length -> (gD a.l i).st = (gD a.l i).st /\ (gD a.l i).fl = (gD a.l i).fl else ∃ (a_3 : Nat), (0 = 0 /\ a.l.length =
 a.l.length /\ (↑a.l.length : Int) = (↑a.l.length : Int) /\ (↑a_3 : Int) = IntKind.i64.wrap ((↑a_1 : Int) + 1) /\ a.l.length = a.l.length /\ (∀ (i : Nat), i < a.l.length -> (gD a.l i).st = (gD a.l i).st /\ (gD a.l i).fl = (gD
 a.l i).fl) /\ a.p.st = a.p.st /\ a.p.fl = a.p.fl) /\ (a_3 <= a.l.length /\ idx (λ (i : Nat) => eqP a.p (gD a.l i)) a.l.length 0 = idx (λ (i : Nat) => eqP a.p (gD a.l i)) (a.l.length - a_3) a_3) /\ a.l.length - a_3 <
 a.l.length - a_1 else idx (λ (i : Nat) => eqP a.p (gD a.l i)) a.l.length 0 = -1 /\ a.l.length = a.l.length /\ ∀ (i : Nat), i < a.l.length -> (gD a.l i).st = (gD a.l i).st /\ (gD a.l i).fl = (gD a.l i).fl) := by kernel_rfl
theorem eqP_t (p q : Pt) : (p.st == q.st && (p.fl == q.fl && true)) = eqP p q := by unfold eqP; rw [Bool.and_true]
theorem idx_at {p : Nat -> Bool} {n : Nat} (h : n < 4611686018427387904) : (∃ a : Nat, (a : Int) = 0 /\ a <= n /\ idx p n 0 = idx p (n - a) a) /\ ∀ a : Nat, a <= n /\ idx p n 0 = idx p (n - a) a -> ((a : Int) < n -> (0 <= (a : Int) /\ (a : Int) < n) /\ (p a = true -> idx p n 0 = a) /\ (p a = false -> ∃ b : Nat, (b : Int) = IntKind.i64.wrap ((a : Int) + 1) /\ (b <= n /\ idx p n 0 = idx p (n - b) b) /\ n - b < n - a)) /\ (¬(a : Int) < n -> idx p n 0 = -1) := by
 refine ⟨⟨0, rfl, Nat.zero_le _, rfl⟩, λ a ⟨h1, h2⟩ => ⟨λ hlt => ?_, λ hge => ?_⟩⟩
 ·have hlt : a < n := by omega
  refine ⟨⟨by omega, by omega⟩, λ hp => ?_, λ hp => ⟨a + 1, (wsucc (by omega)).symm, ⟨by omega, ?_⟩, by omega⟩⟩
  ·rw [h2]; exact idx_stop hlt hp
  ·rw [h2]; exact idx_go hlt hp
 ·rw [h2]; exact idx_end (by omega)
theorem ok_idxP : SpecOk Try.prog n_idxP (C_idxP.spec dPP) := okC C_idxP A_idxP [] [] fn_idxP (λ _ => by kernel_rfl) (λ _ => gok_nil) (λ (a : PP) h => by
 show V_idxP a; rw [vc_idxP]; simp only [condP, eq_self, implies_true, and_self, true_and, and_true, true_implies, forall_const, decide_eq_true_eq, decide_eq_false_iff_not, Int.toNat_natCast, dSpan_eSpan, dInt_eInt, dGau_e, dPt_e, dLn_e, dRt_e, Nat.zero_add, Int.zero_sub, Nat.le_eq, Nat.succ_eq_add_one, Nat.add_one_le_iff, Bool.not_eq_true', Bool.not_eq_false', rng_length, dSpan_mk, rng_getD, eqP_t]
 have h : a.l.length < 4611686018427387904 /\ True := h
 exact idx_at h.1) (λ _ => noI rfl rfl) _
theorem ok_idxO : SpecOk Try.prog n_idxP (C_idxO.spec dPo) := okC C_idxO A_idxO [] [] fn_idxP (λ _ => by kernel_rfl) (λ _ => gok_nil) (λ (a : PP) h => by
 show V_idxO a; rw [vc_idxO]; simp only [condP, eq_self, implies_true, and_self, true_and, and_true, true_implies, forall_const, decide_eq_true_eq, decide_eq_false_iff_not, Int.toNat_natCast, dSpan_eSpan, dInt_eInt, dGau_e, dPt_e, dLn_e, dRt_e, Nat.zero_add, Int.zero_sub, Nat.le_eq, Nat.succ_eq_add_one, Nat.add_one_le_iff, Bool.not_eq_true', Bool.not_eq_false', rng_length, dSpan_mk, rng_getD, eqP_t]
 have h : a.l.length < 4611686018427387904 /\ True := h
 obtain ⟨e1, e2⟩ := idx_at (p := λ i => eqP a.p (gD a.l i)) h.1
 exact ⟨e1, λ k hk => ⟨λ hl => ⟨⟨((e2 k hk).1 hl).1, by omega⟩, ((e2 k hk).1 hl).2⟩, (e2 k hk).2⟩⟩) (λ _ => noI rfl rfl) _
theorem mem_idx {a : PP} : decide (a.p ∈ a.l) = decide (idx (λ i => eqP a.p (gD a.l i)) a.l.length 0 >= 0) := by
 rw [Bool.eq_iff_iff]
 simp only [decide_eq_true_eq, ge_iff_le, idx_ge, Nat.zero_le, Nat.zero_add, true_and]
 have e : ∀ q : Pt, eqP a.p q = true ↔ a.p = q := λ q => by
  obtain ⟨⟨⟩, ⟨x, y⟩⟩ := a
  all_goals obtain ⟨z, w⟩ := q; simp [eqP]
 constructor
 ·intro h
  obtain ⟨i, hi, hx⟩ := mem_gD h
  exact ⟨i, hi, (e _).2 hx.symm⟩
 ·rintro ⟨i, hi, hx⟩
  rw [(e _).1 hx]; exact gD_mem hi
def C_conO : Ctr := { C_idxO with val := λ (a : PP) => .bool (decide (a.p ∈ a.l)) }
def A_conO : Ann := { ann 9 [(n_idxP, C_idxO.spec dPo)] with E := [100] }
def V_conO (a : PP) : Prop := fnVC Try.prog A_conO F_conP (bodyOf F_conP) (xPo a) (heapOf (C_conO.L a)) (C_conO.val a) (C_conO.keep a) [] []
theorem vc_conO (a : PP) : (V_conO a) = ((0 = 0 /\ (rng a.l.length λ (i : Nat) => gD a.l i).length = a.l.length /\ a.p.st = a.p.st /\ a.p.fl = a.p.fl /\ (rng a.l.length λ (i : Nat) => gD a.l i).length = a.l.length /\ (∀
 (i : Nat), i < (rng a.l.length λ (i : Nat) => gD a.l i).length -> (gD (rng a.l.length λ (i : Nat) => gD a.l i) i).st = (gD a.l i).st /\ (gD (rng a.l.length λ (i : Nat) => gD a.l i) i).fl = (gD a.l i).fl) /\ a.l.length
 = (rng a.l.length λ (i : Nat) => gD a.l i).length /\ (∀ (i : Nat), i < a.l.length -> (gD a.l i).st = (gD (rng a.l.length λ (i : Nat) => gD a.l i) i).st /\ (gD a.l i).fl = (gD (rng a.l.length λ (i : Nat) => gD a.l i)
 i).fl) /\ (rng a.l.length λ (i : Nat) => gD a.l i).length < 4611686018427387904 /\ True) /\ decide (a.p ∈ a.l) = decide (idx (λ (i : Nat) => eqP a.p (gD (rng a.l.length λ (i : Nat) => gD a.l i) i)) (rng a.l.length fun
 (i : Nat) => gD a.l i).length 0 >= 0) /\ a.l.length = a.l.length /\ ∀ (i : Nat), i < a.l.length -> (gD a.l i).st = (gD a.l i).st /\ (gD a.l i).fl = (gD a.l i).fl) := by kernel_rfl
def C_conP : Ctr := { C_idxP with val := λ (a : PP) => .bool (decide (a.p ∈ a.l)) }
def A_conP : Ann := ann 9 [(n_idxP, C_idxP.spec dPP)]
def V_conP (a : PP) : Prop := fnVC Try.prog A_conP F_conP (bodyOf F_conP) (xPP a) (heapOf []) (C_conP.val a) [] [] []
theorem vc_conP (a : PP) : (V_conP a) = (((rng a.l.length λ (i : Nat) => gD a.l i).length = a.l.length /\ (∀ (i : Nat), i < (rng a.l.length λ (i : Nat) => gD a.l i).length -> (gD (rng a.l.length λ (i : Nat) => gD a.l
 i) i).st = (gD a.l i).st /\ (gD (rng a.l.length λ (i : Nat) => gD a.l i) i).fl = (gD a.l i).fl) /\ a.p.st = a.p.st /\ a.p.fl = a.p.fl /\ (rng a.l.length λ (i : Nat) => gD a.l i).length < 4611686018427387904 /\ True) /\
 decide (a.p ∈ a.l) = decide (idx (λ (i : Nat) => eqP a.p (gD (rng a.l.length λ (i : Nat) => gD a.l i) i)) (rng a.l.length λ (i : Nat) => gD a.l i).length 0 >= 0)) := by kernel_rfl
theorem ok_conO : SpecOk Try.prog n_conP (C_conO.spec dPo) := Ctr.spec_ok (C := C_conO) (λ (a : PP) h => fnt (A := A_conO) (ren := []) (fz := []) fn_conP (by kernel_rfl) (gok_cons ok_idxO gok_nil) (by
 show V_conO a; rw [vc_conO]; simp only [condP, eq_self, implies_true, and_self, true_and, and_true, true_implies, forall_const, decide_eq_true_eq, decide_eq_false_iff_not, Int.toNat_natCast, dSpan_eSpan, dInt_eInt, dGau_e, dPt_e, dLn_e, dRt_e, Nat.zero_add, Int.zero_sub, Nat.le_eq, Nat.succ_eq_add_one, Nat.add_one_le_iff, Bool.not_eq_true', Bool.not_eq_false', rng_length, dSpan_mk, rng_getD]
 have h : a.l.length < 4611686018427387904 /\ True := h
 exact ⟨h.1, mem_idx⟩)) _
theorem ok_conP : SpecOk Try.prog n_conP (C_conP.spec dPP) := Ctr.spec_ok (C := C_conP) (λ (a : PP) h => fnt (A := A_conP) (L := []) (keep := []) (ren := []) (fz := []) fn_conP (by kernel_rfl) (gok_cons ok_idxP gok_nil) (by
 show V_conP a; rw [vc_conP]; simp only [condP, eq_self, implies_true, and_self, true_and, and_true, true_implies, forall_const, decide_eq_true_eq, decide_eq_false_iff_not, Int.toNat_natCast, dSpan_eSpan, dInt_eInt, dGau_e, dPt_e, dLn_e, dRt_e, Nat.zero_add, Int.zero_sub, Nat.le_eq, Nat.succ_eq_add_one, Nat.add_one_le_iff, Bool.not_eq_true', Bool.not_eq_false', rng_length, dSpan_mk, rng_getD]
 have h : a.l.length < 4611686018427387904 /\ True := h
 exact ⟨h.1, mem_idx⟩)) _
def addP (l : List Pt) (p : Pt) : List Pt := if p ∈ l then l else l ++ [p]
def addG (l : List Pt) (g : Gau) : List Pt := addP (addP l ⟨g.st, g.lo⟩) ⟨g.st, g.hi⟩
def endsM (s : List Gau) : List Pt := s.foldl addG []
def endsK (s : List Gau) (k : Nat) : List Pt := (s.take k).foldl addG []
def stepJ (s : List Gau) (k j : Nat) : List Pt := if j = 0 then endsK s k else if j = 1 then addP (endsK s k) ⟨(gD s k).st, (gD s k).lo⟩ else endsK s (k + 1)
structure PtK where
 k : Nat
 l : List Pt
 deriving Inhabited
structure PtJ where
 k : Nat
 j : Nat
 l : List Pt
 deriving Inhabited
def enS (s : List Gau) (k : Nat) : List (Nat × AVal) := [(9, .d (eGaus s)), (10, .int s.length), (11, .int k)]
def enI (s : List Gau) (k j : Nat) : List (Nat × AVal) := [(5, .bptr 302 0), (21, .own 303 1 0 2), (22, .int 2), (23, .int j)] ++ enS s k
def enH (g : Gau) : List (Nat × HCell) := [(302, .live (.box [.int g.st, .int g.lo, .int g.hi])), (303, .live (.row 1 2 λ i => eInt (gD [g.lo, g.hi] i)))]
def enN (s : List Gau) : Shape := { α := One, dflt := default, T := λ _ => ⟨(3, .d nilL) :: enS s 0, []⟩, inv := λ _ => True, meas := λ _ => s.length + 1, tag := [0] }
def enO (s : List Gau) : Shape := { α := PtK, dflt := default, T := λ x => ⟨(3, .own 301 2 0 x.l.length) :: enS s x.k, [(301, .live (rowP x.l))]⟩, inv := λ x => x.k <= s.length /\ 1 <= x.k /\ x.l = endsK s x.k, meas := λ x => s.length - x.k, tag := [1] }
def enA (s : List Gau) : Shape := { α := One, dflt := default, T := λ _ => ⟨(3, .d nilL) :: enI s 0 0, enH (gD s 0)⟩, inv := λ _ => 0 < s.length, meas := λ _ => 3, first := [(302, 5032), (303, 6096)] }
def enB (s : List Gau) (q : Nat) : Shape := { α := PtJ, dflt := default, T := λ x => ⟨(3, .own 301 2 0 x.l.length) :: enI s x.k x.j, (301, .live (rowP x.l)) :: enH (gD s x.k)⟩, inv := λ x => x.k < s.length /\ x.j <= 2 /\ s.length - x.k <= q /\ x.l = stepJ s x.k x.j, meas := λ x => 2 - x.j, first := [(302, 5032), (303, 6096)] }
def enC (s : List Gau) (m q : Nat) (f : List (Nat × Nat)) : Shape := { α := PtJ, dflt := default, T := λ x => ⟨(3, .own 301 2 0 x.l.length) :: enI s x.k x.j, (301, .live (rowP x.l)) :: enH (gD s x.k)⟩, inv := λ x => x.k < s.length /\ x.j < 2 /\ 2 - x.j <= m /\ s.length - x.k <= q /\ x.l = stepJ s x.k (x.j + 1), meas := λ _ => 0, first := f }
def C_ends : Ctr := { α := List Gau, xs := λ l => [.d (eGaus l)], L := λ _ => [], val := λ l => .d (ePts (endsM l)), keep := λ _ => [], pre := λ l => [l.length < 1073741824 /\ True] }
def A_ends (s : List Gau) : Ann := { ann 42 [(n_conP, orS (C_conO.spec dPo) (C_conP.spec dPP))] with mt := λ id => id == 10, loops := λ id => if id = 3 then some [enN s, enO s] else none, inner := λ gs id => if id = 6 then (if gs.getD 1 0 = 0 then some [enA s, enB s (gs.getD 0 0)] else some [enB s (gs.getD 0 0)]) else none, cutIn := λ gs id => if id = 11 then some [enC s (gs.getD 0 0) (gs.getD 1 0) [(301, 11048)], enC s (gs.getD 0 0) (gs.getD 1 0) []] else none }
def V_ends (s : List Gau) : Prop := fnVC Try.prog (A_ends s) F_ends (bodyOf F_ends) (C_ends.xs s) (heapOf []) (C_ends.val s) [] [] [301]
abbrev z_ends_0 : Prop := (0 : Nat) = (0 : Nat)
abbrev z_ends_1 : Prop := ∀ (i : Nat), i < (0 : Nat) -> false = false
abbrev z_ends_2 (s : List Gau) : Prop := ∀ (i : Nat), i < s.length -> (gD s i).st = (gD s i).st /\ (gD s i).lo = (gD s i).lo /\ (gD s i).hi = (gD s i).hi
abbrev z_ends_3 (s : List Gau) : Prop := (↑s.length : Int) = (↑s.length : Int)
abbrev z_ends_4 : Prop := Int.ofNat (0 : Nat) = Int.ofNat (0 : Nat)
abbrev z_ends_5 (s : List Gau) : Prop := (↑(0 : Nat) : Int) < (↑s.length : Int)
abbrev z_ends_6 : Prop := (0 : Int) <= (↑(0 : Nat) : Int)
abbrev z_ends_7 : Prop := (2 : Nat) = (2 : Nat)
abbrev z_ends_8 : Prop := Int.ofNat (2 : Nat) = Int.ofNat (2 : Nat)
abbrev z_ends_9 (s : List Gau) : Int := (gD s (0 : Nat)).st
abbrev z_ends_10 (s : List Gau) : Prop := z_ends_9 s = z_ends_9 s
abbrev z_ends_11 (s : List Gau) : Int := (gD s (0 : Nat)).lo
abbrev z_ends_12 (s : List Gau) : Int := (gD s (0 : Nat)).hi
abbrev z_ends_13 (s : List Gau) : List Int := [z_ends_11 s, z_ends_12 s]
abbrev z_ends_14 (s : List Gau) (i : Nat) : Int := gD (z_ends_13 s) i
abbrev z_ends_15 (i : Nat) : Bool := decide (i = (0 : Nat))
abbrev z_ends_16 (s : List Gau) : Prop := (Nat.succ (0 : Nat)).le s.length
abbrev z_ends_17 : Nat := (0 : Nat) + (0 : Nat)
abbrev z_ends_18 (s : List Gau) : Int := gD (z_ends_13 s) z_ends_17
abbrev z_ends_19 : Prop := (0 : Nat) < (1 : Nat)
abbrev z_ends_20 : Prop := (1 : Nat) <= (1 : Nat) /\ (z_ends_19 -> z_ends_7)
abbrev z_ends_21 (a : PtJ) : Prop := a.l.length = (1 : Nat)
abbrev z_ends_22 (s : List Gau) (a : PtJ) : List Int := [(gD s a.k).lo, (gD s a.k).hi]
abbrev z_ends_23 (s : List Gau) (a : PtJ) (i : Nat) : Int := gD (z_ends_22 s a) i
abbrev z_ends_24 (a : PtJ) : Prop := a.j < (2 : Nat)
abbrev z_ends_25 (a : PtJ) : Nat := (2 : Nat) - a.j
abbrev z_ends_26 (s : List Gau) (a : PtJ) : Nat := s.length - a.k
abbrev z_ends_27 (s : List Gau) : Nat := s.length + (1 : Nat)
abbrev z_ends_28 (s : List Gau) (a : PtJ) : Prop := z_ends_26 s a <= z_ends_27 s
abbrev z_ends_29 (a : PtJ) (s : List Gau) : Prop := a.l = stepJ s a.k (a.j + (1 : Nat))
abbrev z_ends_30 (s : List Gau) (a : PtJ) : Prop := z_ends_28 s a /\ z_ends_29 a s
abbrev z_ends_31 (a : PtJ) (s : List Gau) : Prop := a.k < s.length /\ z_ends_24 a /\ z_ends_25 a <= (3 : Nat) /\ z_ends_30 s a
abbrev z_ends_32 (a : PtJ) (a1 : PtJ) : Prop := a.l.length = a1.l.length
abbrev z_ends_33 (a : PtJ) (a1 : PtJ) : Prop := (↑a.k : Int) = (↑a1.k : Int)
abbrev z_ends_34 (s : List Gau) (a : PtJ) (a1 : PtJ) : Prop := (gD s a.k).st = (gD s a1.k).st /\ (gD s a.k).lo = (gD s a1.k).lo /\ (gD s a.k).hi = (gD s a1.k).hi /\ z_ends_7 /\ ∀ (i : Nat), i < (2 : Nat) -> z_ends_23 s a i =
 z_ends_23 s a1 i
abbrev z_ends_35 (s : List Gau) (a : PtJ) (a1 : PtJ) : Prop := s.length = s.length /\ z_ends_2 s /\ z_ends_3 s /\ z_ends_33 a a1 /\ z_ends_32 a a1 /\ (∀ (i : Nat), i < a.l.length -> (gD a.l i).st = (gD a1.l i).st /\ (gD a.l
 i).fl = (gD a1.l i).fl) /\ z_ends_34 s a a1
abbrev z_ends_36 (a : PtJ) (a1 : PtJ) (s : List Gau) : Prop := z_ends_0 /\ z_ends_32 a a1 /\ z_ends_0 /\ z_ends_7 /\ z_ends_8 /\ (↑a.j : Int) = IntKind.i64.wrap ((↑a1.j : Int) + (1 : Int)) /\ z_ends_35 s a a1
abbrev z_ends_37 (a : PtJ) : Prop := a.j <= (2 : Nat)
abbrev z_ends_38 (a : PtJ) (s : List Gau) : Prop := a.l = stepJ s a.k a.j
abbrev z_ends_39 (a : PtJ) (s : List Gau) : Prop := a.k < s.length /\ z_ends_37 a /\ z_ends_28 s a /\ z_ends_38 a s
abbrev z_ends_40 (s : List Gau) : Prop := ∀ (a : PtJ), z_ends_31 a s -> ∃ (a_2 : PtJ), z_ends_36 a_2 a s /\ z_ends_39 a_2 s /\ z_ends_25 a_2 < (3 : Nat)
abbrev z_ends_41 (a : PtJ) : Bool := decide ((↑a.j : Int) < (2 : Int))
abbrev z_ends_42 (a : PtJ) : Nat := (0 : Nat) + a.j
abbrev z_ends_43 (a : PtJ) : Prop := ((0 : Int) <= (↑a.j : Int) /\ (↑a.j : Int) < (↑(2 : Nat) : Int)) /\ (z_ends_42 a).succ.le (2 : Nat)
abbrev z_ends_44 (a : PtJ) : List Pt := rng a.l.length λ (i : Nat) => gD a.l i
abbrev z_ends_45 (a : PtJ) : Nat := (z_ends_44 a).length
abbrev z_ends_46 (a : PtJ) : Prop := z_ends_45 a = a.l.length
abbrev z_ends_47 (s : List Gau) (a : PtJ) : Int := gD (z_ends_22 s a) (z_ends_42 a)
abbrev z_ends_48 (a : PtJ) (i : Nat) : Pt := gD (z_ends_44 a) i
abbrev z_ends_49 (a : PtJ) (i : Nat) : Int := (z_ends_48 a i).st
abbrev z_ends_50 (a : PtJ) (i : Nat) : Int := (z_ends_48 a i).fl
abbrev z_ends_51 (a : PtJ) (s : List Gau) : Prop := z_ends_0 /\ z_ends_46 a /\ (gD s a.k).st = (gD s a.k).st /\ z_ends_47 s a = z_ends_47 s a /\ z_ends_46 a /\ (∀ (i : Nat), i < z_ends_45 a -> z_ends_49 a i = (gD a.l i).st /\
 z_ends_50 a i = (gD a.l i).fl) /\ a.l.length = z_ends_45 a /\ (∀ (i : Nat), i < a.l.length -> (gD a.l i).st = z_ends_49 a i /\ (gD a.l i).fl = z_ends_50 a i) /\ z_ends_45 a < (4611686018427387904 : Nat) /\ True
abbrev z_ends_52 (a : PtJ) (s : List Gau) : Bool := !decide (Pt.mk (gD s a.k).st (z_ends_47 s a) ∈ z_ends_44 a)
abbrev z_ends_53 (a : PtJ) : Nat := a.l.length + (1 : Nat)
abbrev z_ends_54 (a : PtJ) : Prop := (a.l.length = a.l.length /\ ((0 : Nat) < a.l.length -> z_ends_7)) /\ z_ends_20 /\ (false = true -> z_ends_19) /\ z_ends_53 a <= (9223372036854775807 : Nat) /\ z_ends_53 a * (16 : Nat) <=
 (140737488355328 : Nat)
abbrev z_ends_55 (a : PtJ) (a1 : PtJ) : Prop := a.l.length = z_ends_53 a1
abbrev z_ends_56 (a : PtJ) (a1 : PtJ) : Prop := (↑a.j : Int) = (↑a1.j : Int)
abbrev z_ends_57 (i : Nat) (a : PtJ) : Bool := decide (i < a.l.length)
abbrev z_ends_58 (a : PtJ) (a1 : PtJ) (s : List Gau) : Prop := z_ends_0 /\ z_ends_55 a a1 /\ z_ends_0 /\ z_ends_7 /\ z_ends_8 /\ z_ends_56 a a1 /\ s.length = s.length /\ z_ends_2 s /\ z_ends_3 s /\ z_ends_33 a a1 /\ z_ends_55 a a1
 /\ (∀ (i : Nat), i < a.l.length -> ((gD a.l i).st = bif z_ends_57 i a1 then (gD a1.l i).st else (gD s a1.k).st) /\ (gD a.l i).fl = bif z_ends_57 i a1 then (gD a1.l i).fl else z_ends_47 s a1) /\ z_ends_34 s a a1
abbrev z_ends_59 (a : PtJ) (a1 : PtJ) : Prop := z_ends_25 a <= z_ends_25 a1
abbrev z_ends_60 (a : PtJ) (s : List Gau) (a1 : PtJ) : Prop := a.k < s.length /\ z_ends_24 a /\ z_ends_59 a a1 /\ z_ends_30 s a
abbrev z_ends_61 (a : PtJ) (a1 : PtJ) (s : List Gau) : Prop := z_ends_0 /\ z_ends_32 a a1 /\ z_ends_0 /\ z_ends_7 /\ z_ends_8 /\ z_ends_56 a a1 /\ z_ends_35 s a a1
abbrev z_ends_62 (a : PtJ) (a1 : PtJ) : Prop := z_ends_25 a < z_ends_25 a1
abbrev z_ends_63 (s : List Gau) (a : PtJ) : Prop := ∀ (a_1 : PtJ), z_ends_60 a_1 s a -> ∃ (a_3 : PtJ), z_ends_36 a_3 a_1 s /\ z_ends_39 a_3 s /\ z_ends_62 a_3 a
abbrev z_ends_64 (a : PtK) (a1 : PtJ) : Prop := a.l.length = a1.l.length
abbrev z_ends_65 (a : PtK) (a1 : PtJ) (s : List Gau) : Prop := z_ends_0 /\ z_ends_64 a a1 /\ s.length = s.length /\ z_ends_2 s /\ z_ends_3 s /\ (↑a.k : Int) = IntKind.i64.wrap ((↑a1.k : Int) + (1 : Int)) /\ z_ends_64 a a1 /\ ∀
 (i : Nat), i < a.l.length -> (gD a.l i).st = (gD a1.l i).st /\ (gD a.l i).fl = (gD a1.l i).fl
abbrev z_ends_66 (a : PtK) (s : List Gau) : Prop := a.k <= s.length /\ (1 : Nat) <= a.k /\ a.l = endsK s a.k
abbrev z_ends_67 (s : List Gau) (a : PtK) : Nat := s.length - a.k
abbrev z_ends_68 (s : List Gau) : Prop := (endsM s).length = (0 : Nat)
abbrev z_ends_69 (a : PtK) (s : List Gau) : Prop := (↑a.k : Int) < (↑s.length : Int)
abbrev z_ends_70 (a : PtJ) (a1 : PtK) : Prop := a.l.length = a1.l.length
abbrev z_ends_71 (s : List Gau) (a : PtJ) (a1 : PtK) : Prop := z_ends_26 s a <= z_ends_67 s a1
abbrev z_ends_72 (a : PtJ) (s : List Gau) (a1 : PtK) : Prop := a.k < s.length /\ z_ends_37 a /\ z_ends_71 s a a1 /\ z_ends_38 a s
abbrev z_ends_73 (a : PtJ) (s : List Gau) (a1 : PtJ) (a2 : PtK) : Prop := a.k < s.length /\ z_ends_24 a /\ z_ends_59 a a1 /\ z_ends_71 s a a2 /\ z_ends_29 a s
abbrev z_ends_74 (s : List Gau) (a : PtJ) (a1 : PtK) : Prop := ∀ (a_1 : PtJ), z_ends_73 a_1 s a a1 -> ∃ (a_3 : PtJ), z_ends_36 a_3 a_1 s /\ z_ends_72 a_3 s a1 /\ z_ends_62 a_3 a
abbrev z_ends_75 (a : PtK) (j : Nat) : Pt := gD a.l ((0 : Nat) + j)
theorem vc_ends (s : List Gau) : (V_ends s) = ((∃ (a : One), (z_ends_0 /\ z_ends_1 /\ s.length = s.length /\ z_ends_2 s /\ z_ends_3 s /\ z_ends_4) /\ True) /\ (∀ (a : One), True -> bif decide (z_ends_5 s) then (z_ends_6 /\
 z_ends_5 s) /\ (∃ (a : One), (z_ends_0 /\ z_ends_1 /\ z_ends_0 /\ z_ends_7 /\ z_ends_8 /\ z_ends_4 /\ s.length = s.length /\ z_ends_2 s /\ z_ends_3 s /\ z_ends_4 /\ z_ends_10 s /\ z_ends_11 s = z_ends_11 s /\ z_ends_12 s = z_ends_12
 s /\ z_ends_7 /\ ∀ (i : Nat), i < (2 : Nat) -> z_ends_14 s i = bif z_ends_15 i then z_ends_11 s else z_ends_12 s) /\ z_ends_16 s) /\ (∀ (a : One), z_ends_16 s -> (((z_ends_6 /\ (↑(0 : Nat) : Int) < (↑(2 : Nat) : Int)) /\
 z_ends_17.succ.le (2 : Nat)) /\ (z_ends_0 /\ z_ends_0 /\ z_ends_10 s /\ z_ends_18 s = z_ends_18 s /\ (0 : Nat) < (4611686018427387904 : Nat) /\ True) /\ ((True /\ ((0 : Nat) < (0 : Nat) -> (0 : Nat) = (2 : Nat))) /\ z_ends_20 /\
 (true = true -> z_ends_19) /\ (1 : Nat) <= (9223372036854775807 : Nat) /\ (16 : Nat) <= (140737488355328 : Nat)) /\ ∃ (a : PtJ), (z_ends_0 /\ z_ends_21 a /\ z_ends_0 /\ z_ends_7 /\ z_ends_8 /\ (↑a.j : Int) = (↑(0 : Nat) : Int) /\
 s.length = s.length /\ z_ends_2 s /\ z_ends_3 s /\ (↑a.k : Int) = (↑(0 : Nat) : Int) /\ z_ends_21 a /\ (∀ (i : Nat), i < a.l.length -> (gD a.l i).st = z_ends_9 s /\ (gD a.l i).fl = z_ends_18 s) /\ (gD s a.k).st = z_ends_9 s /\
 (gD s a.k).lo = z_ends_11 s /\ (gD s a.k).hi = z_ends_12 s /\ z_ends_7 /\ ∀ (i : Nat), i < (2 : Nat) -> z_ends_23 s a i = z_ends_14 s i) /\ z_ends_31 a s) /\ z_ends_40 s /\ z_ends_40 s) /\ ∀ (a : PtJ), z_ends_39 a s -> bif
 z_ends_41 a then (z_ends_43 a /\ z_ends_51 a s /\ bif z_ends_52 a s then z_ends_54 a /\ ∃ (a_2 : PtJ), z_ends_58 a_2 a s /\ z_ends_60 a_2 s a else ∃ (a_2 : PtJ), z_ends_61 a_2 a s /\ z_ends_60 a_2 s a) /\ z_ends_63 s a /\
 z_ends_63 s a else ∃ (a_2 : PtK), z_ends_65 a_2 a s /\ z_ends_66 a_2 s /\ z_ends_67 s a_2 < z_ends_27 s else z_ends_68 s /\ z_ends_68 s) /\ ∀ (a : PtK), z_ends_66 a s -> bif decide (z_ends_69 a s) then ((0 : Int) <= (↑a.k :
 Int) /\ z_ends_69 a s) /\ (∃ (a_2 : PtJ), (z_ends_0 /\ z_ends_70 a_2 a /\ z_ends_0 /\ z_ends_7 /\ z_ends_8 /\ (↑a_2.j : Int) = (0 : Int) /\ s.length = s.length /\ z_ends_2 s /\ z_ends_3 s /\ (↑a_2.k : Int) = (↑a.k : Int) /\
 z_ends_70 a_2 a /\ (∀ (i : Nat), i < a_2.l.length -> (gD a_2.l i).st = (gD a.l i).st /\ (gD a_2.l i).fl = (gD a.l i).fl) /\ (gD s a_2.k).st = (gD s a.k).st /\ (gD s a_2.k).lo = (gD s a.k).lo /\ (gD s a_2.k).hi = (gD s a.k).hi
 /\ z_ends_7 /\ ∀ (i : Nat), i < (2 : Nat) -> z_ends_23 s a_2 i = bif z_ends_15 i then (gD s a.k).lo else (gD s a.k).hi) /\ z_ends_72 a_2 s a) /\ ∀ (a_2 : PtJ), z_ends_72 a_2 s a -> bif z_ends_41 a_2 then (z_ends_43 a_2 /\
 z_ends_51 a_2 s /\ bif z_ends_52 a_2 s then z_ends_54 a_2 /\ ∃ (a_4 : PtJ), z_ends_58 a_4 a_2 s /\ z_ends_73 a_4 s a_2 a else ∃ (a_4 : PtJ), z_ends_61 a_4 a_2 s /\ z_ends_73 a_4 s a_2 a) /\ z_ends_74 s a_2 a /\ z_ends_74 s a_2
 a else ∃ (a_4 : PtK), z_ends_65 a_4 a_2 s /\ z_ends_66 a_4 s /\ z_ends_67 s a_4 < z_ends_67 s a else (endsM s).length = a.l.length /\ (0 : Nat) + a.l.length <= a.l.length /\ ∀ (j : Nat), j < (endsM s).length -> (gD (endsM s)
 j).st = (z_ends_75 a j).st /\ (gD (endsM s) j).fl = (z_ends_75 a j).fl) := by kernel_rfl
theorem addP_len (l : List Pt) (p : Pt) : (addP l p).length <= l.length + 1 := by unfold addP; split <;> simp
theorem endsK_succ {s : List Gau} {k : Nat} (h : k < s.length) : endsK s (k + 1) = addG (endsK s k) (gD s k) := by
 unfold endsK; rw [take_snoc h, List.foldl_append]; rfl
theorem endsK_len {s : List Gau} : ∀ k, k <= s.length -> (endsK s k).length <= 2 * k
 | 0, _ => by simp [endsK]
 | k + 1, h => by
  rw [endsK_succ (by omega)]
  have := endsK_len (s := s) k (by omega)
  have h1 := addP_len (endsK s k) ⟨(gD s k).st, (gD s k).lo⟩
  have h2 := addP_len (addP (endsK s k) ⟨(gD s k).st, (gD s k).lo⟩) ⟨(gD s k).st, (gD s k).hi⟩
  unfold addG; omega
theorem stepJ_succ {s : List Gau} {k j : Nat} (h : k < s.length) (hj : j < 2) : stepJ s k (j + 1) = addP (stepJ s k j) ⟨(gD s k).st, gD [(gD s k).lo, (gD s k).hi] j⟩ := by
 match j, hj with
 | 0, _ => rfl
 | 1, _ => exact endsK_succ h
theorem stepJ_len {s : List Gau} {k j : Nat} (h : k < s.length) (hj : j <= 2) : (stepJ s k j).length <= 2 * s.length := by
 match j, hj with
 | 0, _ => have := endsK_len (s := s) k (by omega); show (endsK s k).length <= _; omega
 | 1, _ =>
  have := endsK_len (s := s) k (by omega)
  have h1 := addP_len (endsK s k) ⟨(gD s k).st, (gD s k).lo⟩
  show (addP _ _).length <= _; omega
 | 2, _ => have := endsK_len (s := s) (k + 1) (by omega); show (endsK s (k + 1)).length <= _; omega
theorem addP_in {l : List Pt} {p : Pt} (h : p ∈ l) : addP l p = l := if_pos h
theorem addP_out {l : List Pt} {p : Pt} (h : ¬ p ∈ l) : addP l p = l ++ [p] := if_neg h
theorem snocP (l : List Pt) (p : Pt) (i : Nat) (hi : i < (l ++ [p]).length) : ((gD (l ++ [p]) i).st = bif decide (i < l.length) then (gD l i).st else p.st) /\ (gD (l ++ [p]) i).fl = bif decide (i < l.length) then (gD l i).fl else p.fl := by
 rw [gD_snoc _ _ (by simpa using hi)]
 cases decide (i < l.length) <;> exact ⟨rfl, rfl⟩
theorem p_ends (s : List Gau) (hn : s.length < 1073741824) : V_ends s := by
 rw [vc_ends]; delta z_ends_0 z_ends_1 z_ends_2 z_ends_3 z_ends_4 z_ends_5 z_ends_6 z_ends_7 z_ends_8 z_ends_9 z_ends_10 z_ends_11 z_ends_12 z_ends_13 z_ends_14 z_ends_15 z_ends_16 z_ends_17 z_ends_18 z_ends_19 z_ends_20 z_ends_21 z_ends_22 z_ends_23 z_ends_24 z_ends_25 z_ends_26 z_ends_27 z_ends_28 z_ends_29 z_ends_30 z_ends_31 z_ends_32 z_ends_33 z_ends_34 z_ends_35 z_ends_36 z_ends_37 z_ends_38 z_ends_39 z_ends_40 z_ends_41 z_ends_42 z_ends_43 z_ends_44 z_ends_45 z_ends_46 z_ends_47 z_ends_48 z_ends_49 z_ends_50 z_ends_51 z_ends_52 z_ends_53 z_ends_54 z_ends_55 z_ends_56 z_ends_57 z_ends_58 z_ends_59 z_ends_60 z_ends_61 z_ends_62 z_ends_63 z_ends_64 z_ends_65 z_ends_66 z_ends_67 z_ends_68 z_ends_69 z_ends_70 z_ends_71 z_ends_72 z_ends_73 z_ends_74 z_ends_75; simp only [condP, eq_self, implies_true, and_self, true_and, and_true, true_implies, forall_const, decide_eq_true_eq, decide_eq_false_iff_not, Int.toNat_natCast, dSpan_eSpan, dInt_eInt, dGau_e, dPt_e, dLn_e, dRt_e, Nat.zero_add, Int.zero_sub, Nat.le_eq, Nat.succ_eq_add_one, Nat.add_one_le_iff, Bool.not_eq_true', Bool.not_eq_false', rng_length, dSpan_mk, rng_getD]
 have cut : ∀ (q m : Nat) (c : PtJ), c.k < s.length /\ c.j < 2 /\ 2 - c.j <= m /\ s.length - c.k <= q /\ c.l = stepJ s c.k (c.j + 1) -> ∃ b : PtJ, (b.l.length = c.l.length /\ (b.j : Int) = IntKind.i64.wrap ((c.j : Int) + 1) /\ (b.k : Int) = c.k /\ b.l.length = c.l.length /\ (∀ (i : Nat), i < b.l.length -> (gD b.l i).st = (gD c.l i).st /\ (gD b.l i).fl = (gD c.l i).fl) /\ (gD s b.k).st = (gD s c.k).st /\ (gD s b.k).lo = (gD s c.k).lo /\ (gD s b.k).hi = (gD s c.k).hi /\ ∀ (i : Nat), i < 2 -> gD [(gD s b.k).lo, (gD s b.k).hi] i = gD [(gD s c.k).lo, (gD s c.k).hi] i) /\ (b.k < s.length /\ b.j <= 2 /\ s.length - b.k <= q /\ b.l = stepJ s b.k b.j) /\ 2 - b.j < m := λ q m c hc =>
  ⟨⟨c.k, c.j + 1, c.l⟩, ⟨rfl, (wsucc (by omega)).symm, rfl, rfl, λ _ _ => ⟨rfl, rfl⟩, rfl, rfl, rfl, λ _ _ => rfl⟩, ⟨hc.1, by show c.j + 1 <= 2; omega, hc.2.2.2.1, hc.2.2.2.2⟩, by show 2 - (c.j + 1) < m; omega⟩
 have go : ∀ (q : Nat) (b : PtJ), b.k < s.length /\ b.j <= 2 /\ s.length - b.k <= q /\ b.l = stepJ s b.k b.j -> (b.j : Int) < 2 -> b.l.length < 4611686018427387904 /\ b.l.length < 9223372036854775807 /\ (b.l.length + 1) * 16 <= 140737488355328 /\ ∀ p : Pt, p = ⟨(gD s b.k).st, gD [(gD s b.k).lo, (gD s b.k).hi] b.j⟩ -> (¬ p ∈ b.l -> b.l ++ [p] = stepJ s b.k (b.j + 1)) /\ (p ∈ b.l -> b.l = stepJ s b.k (b.j + 1)) := λ q b hb hj => by
  have hl := stepJ_len hb.1 hb.2.1
  rw [<- hb.2.2.2] at hl
  refine ⟨by omega, by omega, by omega, λ p hp => ?_⟩
  rw [stepJ_succ hb.1 (by omega), <- hb.2.2.2, <- hp]
  exact ⟨λ h => (addP_out h).symm, λ h => (addP_in h).symm⟩
 have two : ∀ (g : Gau) (i : Nat), i < 2 -> gD [g.lo, g.hi] i = bif decide (i = 0) then g.lo else g.hi := λ g i hi => by
  match i, hi with
  | 0, _ => rfl
  | 1, _ => rfl
 refine ⟨⟨default, trivial⟩, ⟨λ h0 => ⟨⟨by omega, by omega⟩, ⟨default, two _, by omega⟩, λ h1 => ⟨⟨⟨by omega, by omega⟩, by omega, by simp, ⟨⟨0, 0, [⟨(gD s 0).st, (gD s 0).lo⟩]⟩, ⟨rfl, rfl, rfl, rfl, λ i hi => ?_, rfl, rfl, rfl, λ _ _ => rfl⟩, h1, by simp, by simp, by simp, rfl⟩⟩, cut _ _⟩,
  λ b hb => ⟨λ hj => ⟨⟨⟨by omega, by omega⟩, (go _ b hb hj).1, λ hm => ⟨⟨by simp, by simp, (go _ b hb hj).2.1, (go _ b hb hj).2.2.1⟩, ⟨b.k, b.j, b.l ++ [_]⟩, ⟨by simp, rfl, rfl, by simp, snocP b.l _, rfl, rfl, rfl, λ _ _ => rfl⟩, hb.1, by show b.j < 2; omega, Nat.le_refl _, hb.2.2.1, ((go _ b hb hj).2.2.2 _ rfl).1 hm⟩, λ hm => ⟨⟨b.k, b.j, b.l⟩, ⟨rfl, rfl, rfl, rfl, λ _ _ => ⟨rfl, rfl⟩, rfl, rfl, rfl, λ _ _ => rfl⟩, hb.1, by show b.j < 2; omega, Nat.le_refl _, hb.2.2.1, ((go _ b hb hj).2.2.2 _ rfl).2 hm⟩⟩, cut _ _⟩, λ hj => ?_⟩⟩, λ h0 => ?_⟩,
  λ a ha => ⟨λ hk => ⟨⟨by omega, by omega⟩, ⟨⟨a.k, 0, a.l⟩, ⟨rfl, rfl, rfl, rfl, λ _ _ => ⟨rfl, rfl⟩, rfl, rfl, rfl, two _⟩, by show a.k < _; omega, by simp, Nat.le_refl _, ha.2.2⟩,
  λ b hb => ⟨λ hj => ⟨⟨⟨by omega, by omega⟩, (go _ b hb hj).1, λ hm => ⟨⟨by simp, by simp, (go _ b hb hj).2.1, (go _ b hb hj).2.2.1⟩, ⟨b.k, b.j, b.l ++ [_]⟩, ⟨by simp, rfl, rfl, by simp, snocP b.l _, rfl, rfl, rfl, λ _ _ => rfl⟩, hb.1, by show b.j < 2; omega, Nat.le_refl _, hb.2.2.1, ((go _ b hb hj).2.2.2 _ rfl).1 hm⟩, λ hm => ⟨⟨b.k, b.j, b.l⟩, ⟨rfl, rfl, rfl, rfl, λ _ _ => ⟨rfl, rfl⟩, rfl, rfl, rfl, λ _ _ => rfl⟩, hb.1, by show b.j < 2; omega, Nat.le_refl _, hb.2.2.1, ((go _ b hb hj).2.2.2 _ rfl).2 hm⟩⟩, cut _ _⟩, λ hj => ?_⟩⟩, λ hk => ?_⟩⟩
 ·have : i = 0 := by have hi : i < 1 := hi; omega
  subst this; exact ⟨rfl, rfl⟩
 ·have h2 : b.j = 2 := by omega
  exact ⟨⟨b.k + 1, b.l⟩, ⟨rfl, (wsucc (by omega)).symm, rfl, λ _ _ => ⟨rfl, rfl⟩⟩, ⟨by show b.k + 1 <= _; omega, Nat.succ_pos _, by rw [hb.2.2.2, h2]; rfl⟩, by show s.length - (b.k + 1) < _; omega⟩
 ·have : s = [] := List.eq_nil_of_length_eq_zero (by omega)
  subst this; rfl
 ·have h2 : b.j = 2 := by omega
  exact ⟨⟨b.k + 1, b.l⟩, ⟨rfl, (wsucc (by omega)).symm, rfl, λ _ _ => ⟨rfl, rfl⟩⟩, ⟨by show b.k + 1 <= _; omega, Nat.succ_pos _, by rw [hb.2.2.2, h2]; rfl⟩, by show s.length - (b.k + 1) < _; omega⟩
 ·have e : a.l = endsM s := by rw [ha.2.2]; unfold endsK endsM; rw [List.take_of_length_le (by omega)]
  rw [<- e]
  exact ⟨rfl, Nat.le_refl _, λ _ _ => ⟨rfl, rfl⟩⟩
theorem ok_ends : SpecOk Try.prog n_ends (C_ends.spec dGs1) := okC C_ends A_ends [] [301] fn_ends (λ _ => by kernel_rfl) (λ _ => gok_cons (orS_ok ok_conO ok_conP) gok_nil) (λ (s : List Gau) h => p_ends s (show s.length < 1073741824 /\ True from h).1) (λ _ => noI rfl rfl) _
end Go.Bal
