/- Package rating: ends of spans. -/
import Derived.Test.YtoihhodbkimedaaGreatRatB
set_option linter.unusedVariables false
set_option linter.unusedSimpArgs false
namespace Go.Bal
open Go Go.Sym Go.Proofs
structure PP where
 l : List Pt
 p : Pt
def eF (p q : Pt) : Bool := p.st == q.st && p.fl == q.fl
def dPP : List AVal -> Heap -> Option (PP × List (Nat × Nat) × List Nat)
 | [y, .d p], H => match dPts y H with
  | some (l, f) => some (⟨l, dPt p⟩, [], f)
  | none => none
 | _, _ => none
def xPP (a : PP) : List AVal := [.d (ePts a.l), .d (ePt a.p)]
def C_idxP : Ctr := { α := PP, xs := xPP, L := λ _ => [], val := λ a => .int (DB (λ i => eF a.p (gD a.l i)) a.l.length 0), keep := λ _ => [], pre := λ a => [a.l.length < 4611686018427387904 /\ True] }
def BIO (a : PP) : Ann := { ann 19 [] with loops := λ id => if id = 2 then some [{ α := Nat, dflt := 0, T := λ k => ⟨[(0, .d (ePts a.l)), (3, .bptr 201 0), (7, .int a.l.length), (8, .int k)], [(201, .live (.box [.int a.p.st, .int a.p.fl]))]⟩, inv := λ k => k <= a.l.length /\ DB (λ i => eF a.p (gD a.l i)) a.l.length 0 = DB (λ i => eF a.p (gD a.l i)) (a.l.length - k) k, meas := λ k => a.l.length - k, first := [(201, 1000)] }] else none }
def BGI (a : PP) : Prop := AO Try.prog (BIO a) AAI (AF AAI) (xPP a) (AC []) (C_idxP.val a) [] [] []
theorem BNZ (a : PP) : (BGI a) = ((∃ (a_1 : Nat), (a.l.length = a.l.length /\ (∀ (i : Nat), i < a.l.length -> (gD a.l i).st = (gD a.l i).st /\ (gD a.l i).fl = (gD a.l i).fl) /\ (↑a.l.length : Int) = (↑a.l.length :
 Int) /\ (↑a_1 : Int) = 0 /\ a.p.st = a.p.st /\ a.p.fl = a.p.fl) /\ a_1 <= a.l.length /\ DB (λ (i : Nat) => eF a.p (gD a.l i)) a.l.length 0 = DB (λ (i : Nat) => eF a.p (gD a.l i)) (a.l.length - a_1) a_1) /\ ∀ (a_1 :
 Nat), a_1 <= a.l.length /\ DB (λ (i : Nat) => eF a.p (gD a.l i)) a.l.length 0 = DB (λ (i : Nat) => eF a.p (gD a.l i)) (a.l.length - a_1) a_1 -> bif decide ((↑a_1 : Int) < (↑a.l.length : Int)) then (0 <= (↑a_1 : Int)
 /\ (↑a_1 : Int) < (↑a.l.length : Int)) /\ bif a.p.st == (gD a.l a_1).st && (a.p.fl == (gD a.l a_1).fl && true) then DB (λ (i : Nat) => eF a.p (gD a.l i)) a.l.length 0 = (↑a_1 : Int) else ∃ (a_3 : Nat), (a.l.length =
 a.l.length /\ (∀ (i : Nat), i < a.l.length -> (gD a.l i).st = (gD a.l i).st /\ (gD a.l i).fl = (gD a.l i).fl) /\ (↑a.l.length : Int) = (↑a.l.length : Int) /\ (↑a_3 : Int) = IntKind.i64.wrap ((↑a_1 : Int) + 1) /\ a.p.st =
 a.p.st /\ a.p.fl = a.p.fl) /\ (a_3 <= a.l.length /\ DB (λ (i : Nat) => eF a.p (gD a.l i)) a.l.length 0 = DB (λ (i : Nat) => eF a.p (gD a.l i)) (a.l.length - a_3) a_3) /\ a.l.length - a_3 < a.l.length - a_1 else DB
 (λ (i : Nat) => eF a.p (gD a.l i)) a.l.length 0 = -1) := by kernel_rfl
def rowP (l : List Pt) : AObj := .row 2 l.length λ i => ePt (gD l i)
def xPo (a : PP) : List AVal := [.own 100 2 0 a.l.length, .d (ePt a.p)]
def dPo : List AVal -> Heap -> Option (PP × List (Nat × Nat) × List Nat)
 | [.own id _ _ n, .d p], H => match H id with
  | .live (.row _ _ g) => some (⟨AD n λ i => dPt (g i), dPt p⟩, [(100, id)], [])
  | _ => none
 | _, _ => none
def C_idxO : Ctr := { ro := [100], α := PP, xs := xPo, L := λ a => [(100, rowP a.l)], val := λ a => .int (DB (λ i => eF a.p (gD a.l i)) a.l.length 0), keep := λ a => [(100, .live (rowP a.l))], pre := λ a => [a.l.length < 4611686018427387904 /\ True] }
def BKQ (a : PP) : Ann := { ann 19 [] with E := [100], loops := λ id => if id = 2 then some [{ α := Nat, dflt := 0, T := λ k => ⟨[(0, .own 100 2 0 a.l.length), (3, .bptr 201 0), (7, .int a.l.length), (8, .int k)], [(100, .live (rowP a.l)), (201, .live (.box [.int a.p.st, .int a.p.fl]))]⟩, inv := λ k => k <= a.l.length /\ DB (λ i => eF a.p (gD a.l i)) a.l.length 0 = DB (λ i => eF a.p (gD a.l i)) (a.l.length - k) k, meas := λ k => a.l.length - k, first := [(201, 1000)] }] else none }
def BFO (a : PP) : Prop := AO Try.prog (BKQ a) AAI (AF AAI) (xPo a) (AC (C_idxO.L a)) (C_idxO.val a) (C_idxO.keep a) [] []
theorem BNS (a : PP) : (BFO a) = ((∃ (a_1 : Nat), (0 = 0 /\ a.l.length = a.l.length /\ (↑a.l.length : Int) = (↑a.l.length : Int) /\ (↑a_1 : Int) = 0 /\ a.l.length = a.l.length /\ (∀ (i : Nat), i < a.l.length -> (gD a.l
 i).st = (gD a.l i).st /\ (gD a.l i).fl = (gD a.l i).fl) /\ a.p.st = a.p.st /\ a.p.fl = a.p.fl) /\ a_1 <= a.l.length /\ DB (λ (i : Nat) => eF a.p (gD a.l i)) a.l.length 0 = DB (λ (i : Nat) => eF a.p (gD a.l i))
 (a.l.length - a_1) a_1) /\ ∀ (a_1 : Nat), a_1 <= a.l.length /\ DB (λ (i : Nat) => eF a.p (gD a.l i)) a.l.length 0 = DB (λ (i : Nat) => eF a.p (gD a.l i)) (a.l.length - a_1) a_1 -> bif decide ((↑a_1 : Int) <
 (↑a.l.length : Int)) then ((0 <= (↑a_1 : Int) /\ (↑a_1 : Int) < (↑a.l.length : Int)) /\ (0 + a_1).succ.le a.l.length) /\ bif a.p.st == (gD a.l (0 + a_1)).st && (a.p.fl == (gD a.l (0 + a_1)).fl && true) then DB (λ (i :
 Nat) => eF a.p (gD a.l i)) a.l.length 0 = (↑a_1 : Int) /\ a.l.length = a.l.length /\ ∀ (i : Nat), i < a.l.length -> (gD a.l i).st = (gD a.l i).st /\ (gD a.l i).fl = (gD a.l i).fl else ∃ (a_3 : Nat), (0 = 0 /\ a.l.length =
 a.l.length /\ (↑a.l.length : Int) = (↑a.l.length : Int) /\ (↑a_3 : Int) = IntKind.i64.wrap ((↑a_1 : Int) + 1) /\ a.l.length = a.l.length /\ (∀ (i : Nat), i < a.l.length -> (gD a.l i).st = (gD a.l i).st /\ (gD a.l i).fl = (gD
 a.l i).fl) /\ a.p.st = a.p.st /\ a.p.fl = a.p.fl) /\ (a_3 <= a.l.length /\ DB (λ (i : Nat) => eF a.p (gD a.l i)) a.l.length 0 = DB (λ (i : Nat) => eF a.p (gD a.l i)) (a.l.length - a_3) a_3) /\ a.l.length - a_3 <
 a.l.length - a_1 else DB (λ (i : Nat) => eF a.p (gD a.l i)) a.l.length 0 = -1 /\ a.l.length = a.l.length /\ ∀ (i : Nat), i < a.l.length -> (gD a.l i).st = (gD a.l i).st /\ (gD a.l i).fl = (gD a.l i).fl) := by kernel_rfl
theorem BRH (p q : Pt) : (p.st == q.st && (p.fl == q.fl && true)) = eF p q := by unfold eF; rw [Bool.and_true]
theorem BFS {p : Nat -> Bool} {n : Nat} (h : n < 4611686018427387904) : (∃ a : Nat, (a : Int) = 0 /\ a <= n /\ DB p n 0 = DB p (n - a) a) /\ ∀ a : Nat, a <= n /\ DB p n 0 = DB p (n - a) a -> ((a : Int) < n -> (0 <= (a : Int) /\ (a : Int) < n) /\ (p a = true -> DB p n 0 = a) /\ (p a = false -> ∃ b : Nat, (b : Int) = IntKind.i64.wrap ((a : Int) + 1) /\ (b <= n /\ DB p n 0 = DB p (n - b) b) /\ n - b < n - a)) /\ (¬(a : Int) < n -> DB p n 0 = -1) := by
 refine ⟨⟨0, rfl, Nat.zero_le _, rfl⟩, λ a ⟨h1, h2⟩ => ⟨λ hlt => ?_, λ hge => ?_⟩⟩
 ·have hlt : a < n := by omega
  refine ⟨⟨by omega, by omega⟩, λ hp => ?_, λ hp => ⟨a + 1, (BH (by omega)).symm, ⟨by omega, ?_⟩, by omega⟩⟩
  ·rw [h2]; exact Fk hlt hp
  ·rw [h2]; exact AFD hlt hp
 ·rw [h2]; exact iY (by omega)
theorem BMJ : AG Try.prog ACG (C_idxP.spec dPP) := GD C_idxP BIO [] [] BCM (λ _ => by kernel_rfl) (λ _ => AE) (λ (a : PP) h => by
 show BGI a; rw [BNZ]; simp only [CC, eq_self, implies_true, forall_const, BRH]
 have h : a.l.length < 4611686018427387904 /\ True := h
 exact BFS h.1) (λ _ => GJ rfl rfl) _
theorem BOQ : AG Try.prog ACG (C_idxO.spec dPo) := GD C_idxO BKQ [] [] BCM (λ _ => by kernel_rfl) (λ _ => AE) (λ (a : PP) h => by
 show BFO a; rw [BNS]; simp only [CC, eq_self, implies_true, forall_const, BRH]
 have h : a.l.length < 4611686018427387904 /\ True := h
 obtain ⟨e1, e2⟩ := BFS (p := λ i => eF a.p (gD a.l i)) h.1
 exact ⟨e1, λ k hk => ⟨λ hl => ⟨⟨((e2 k hk).1 hl).1, by omega⟩, ((e2 k hk).1 hl).2⟩, (e2 k hk).2⟩⟩) (λ _ => GJ rfl rfl) _
theorem BBE {a : PP} : decide (a.p ∈ a.l) = decide (DB (λ i => eF a.p (gD a.l i)) a.l.length 0 >= 0) := by
 rw [Bool.eq_iff_iff]
 simp only [decide_eq_true_eq, ge_iff_le, AXX, Nat.zero_le, Nat.zero_add, true_and]
 have e : ∀ q : Pt, eF a.p q = true ↔ a.p = q := λ q => by
  obtain ⟨⟨⟩, ⟨x, y⟩⟩ := a
  all_goals obtain ⟨z, w⟩ := q; simp [eF]
 constructor
 ·intro h
  obtain ⟨i, hi, hx⟩ := ALG h
  exact ⟨i, hi, (e _).2 hx.symm⟩
 ·rintro ⟨i, hi, hx⟩
  rw [(e _).1 hx]; exact EG hi
def C_conO : Ctr := { C_idxO with val := λ (a : PP) => .bool (decide (a.p ∈ a.l)) }
def BHP : Ann := { ann 9 [(ACG, C_idxO.spec dPo)] with E := [100] }
def BKB (a : PP) : Prop := AO Try.prog BHP ADD (AF ADD) (xPo a) (AC (C_conO.L a)) (C_conO.val a) (C_conO.keep a) [] []
theorem BOO (a : PP) : (BKB a) = ((0 = 0 /\ (AD a.l.length λ (i : Nat) => gD a.l i).length = a.l.length /\ a.p.st = a.p.st /\ a.p.fl = a.p.fl /\ (AD a.l.length λ (i : Nat) => gD a.l i).length = a.l.length /\ (∀
 (i : Nat), i < (AD a.l.length λ (i : Nat) => gD a.l i).length -> (gD (AD a.l.length λ (i : Nat) => gD a.l i) i).st = (gD a.l i).st /\ (gD (AD a.l.length λ (i : Nat) => gD a.l i) i).fl = (gD a.l i).fl) /\ a.l.length
 = (AD a.l.length λ (i : Nat) => gD a.l i).length /\ (∀ (i : Nat), i < a.l.length -> (gD a.l i).st = (gD (AD a.l.length λ (i : Nat) => gD a.l i) i).st /\ (gD a.l i).fl = (gD (AD a.l.length λ (i : Nat) => gD a.l i)
 i).fl) /\ (AD a.l.length λ (i : Nat) => gD a.l i).length < 4611686018427387904 /\ True) /\ decide (a.p ∈ a.l) = decide (DB (λ (i : Nat) => eF a.p (gD (AD a.l.length λ (i : Nat) => gD a.l i) i)) (AD a.l.length fun
 (i : Nat) => gD a.l i).length 0 >= 0) /\ a.l.length = a.l.length /\ ∀ (i : Nat), i < a.l.length -> (gD a.l i).st = (gD a.l i).st /\ (gD a.l i).fl = (gD a.l i).fl) := by kernel_rfl
def C_conP : Ctr := { C_idxP with val := λ (a : PP) => .bool (decide (a.p ∈ a.l)) }
def BLL : Ann := ann 9 [(ACG, C_idxP.spec dPP)]
def BIT (a : PP) : Prop := AO Try.prog BLL ADD (AF ADD) (xPP a) (AC []) (C_conP.val a) [] [] []
theorem BMI (a : PP) : (BIT a) = (((AD a.l.length λ (i : Nat) => gD a.l i).length = a.l.length /\ (∀ (i : Nat), i < (AD a.l.length λ (i : Nat) => gD a.l i).length -> (gD (AD a.l.length λ (i : Nat) => gD a.l
 i) i).st = (gD a.l i).st /\ (gD (AD a.l.length λ (i : Nat) => gD a.l i) i).fl = (gD a.l i).fl) /\ a.p.st = a.p.st /\ a.p.fl = a.p.fl /\ (AD a.l.length λ (i : Nat) => gD a.l i).length < 4611686018427387904 /\ True) /\
 decide (a.p ∈ a.l) = decide (DB (λ (i : Nat) => eF a.p (gD (AD a.l.length λ (i : Nat) => gD a.l i) i)) (AD a.l.length λ (i : Nat) => gD a.l i).length 0 >= 0)) := by kernel_rfl
theorem BNF : AG Try.prog AQH (C_conO.spec dPo) := Ctr.spec_ok (C := C_conO) (λ (a : PP) h => JZ (A := BHP) (ren := []) (fz := []) BAL (by kernel_rfl) (AB BOQ AE) (by
 show BKB a; rw [BOO]; simp only [CC, eq_self, implies_true, forall_const]
 have h : a.l.length < 4611686018427387904 /\ True := h
 exact ⟨h.1, BBE⟩)) _
theorem BOP : AG Try.prog AQH (C_conP.spec dPP) := Ctr.spec_ok (C := C_conP) (λ (a : PP) h => JZ (A := BLL) (L := []) (keep := []) (ren := []) (fz := []) BAL (by kernel_rfl) (AB BMJ AE) (by
 show BIT a; rw [BMI]; simp only [CC, eq_self, implies_true, forall_const]
 have h : a.l.length < 4611686018427387904 /\ True := h
 exact ⟨h.1, BBE⟩)) _
def E7 (l : List Pt) (p : Pt) : List Pt := if p ∈ l then l else l ++ [p]
def addG (l : List Pt) (g : Gau) : List Pt := E7 (E7 l ⟨g.st, g.lo⟩) ⟨g.st, g.hi⟩
def AA (s : List Gau) : List Pt := s.foldl addG []
def JY (s : List Gau) (k : Nat) : List Pt := (s.take k).foldl addG []
def Ea (s : List Gau) (k j : Nat) : List Pt := if j = 0 then JY s k else if j = 1 then E7 (JY s k) ⟨(gD s k).st, (gD s k).lo⟩ else JY s (k + 1)
structure PtK where
 k : Nat
 l : List Pt
 deriving Inhabited
structure PtJ where
 k : Nat
 j : Nat
 l : List Pt
 deriving Inhabited
def enS (s : List Gau) (k : Nat) : List (Nat × AVal) := [(9, .d (BE s)), (10, .int s.length), (11, .int k)]
def enI (s : List Gau) (k j : Nat) : List (Nat × AVal) := [(5, .bptr 302 0), (21, .own 303 1 0 2), (22, .int 2), (23, .int j)] ++ enS s k
def enH (g : Gau) : List (Nat × HCell) := [(302, .live (.box [.int g.st, .int g.lo, .int g.hi])), (303, .live (.row 1 2 λ i => CH (gD [g.lo, g.hi] i)))]
def enN (s : List Gau) : Shape := { α := One, dflt := default, T := λ _ => ⟨(3, .d PQ) :: enS s 0, []⟩, inv := λ _ => True, meas := λ _ => s.length + 1, tag := [0] }
def enO (s : List Gau) : Shape := { α := PtK, dflt := default, T := λ x => ⟨(3, .own 301 2 0 x.l.length) :: enS s x.k, [(301, .live (rowP x.l))]⟩, inv := λ x => x.k <= s.length /\ 1 <= x.k /\ x.l = JY s x.k, meas := λ x => s.length - x.k, tag := [1] }
def enA (s : List Gau) : Shape := { α := One, dflt := default, T := λ _ => ⟨(3, .d PQ) :: enI s 0 0, enH (gD s 0)⟩, inv := λ _ => 0 < s.length, meas := λ _ => 3, first := [(302, 5032), (303, 6096)] }
def enB (s : List Gau) (q : Nat) : Shape := { α := PtJ, dflt := default, T := λ x => ⟨(3, .own 301 2 0 x.l.length) :: enI s x.k x.j, (301, .live (rowP x.l)) :: enH (gD s x.k)⟩, inv := λ x => x.k < s.length /\ x.j <= 2 /\ s.length - x.k <= q /\ x.l = Ea s x.k x.j, meas := λ x => 2 - x.j, first := [(302, 5032), (303, 6096)] }
def enC (s : List Gau) (m q : Nat) (f : List (Nat × Nat)) : Shape := { α := PtJ, dflt := default, T := λ x => ⟨(3, .own 301 2 0 x.l.length) :: enI s x.k x.j, (301, .live (rowP x.l)) :: enH (gD s x.k)⟩, inv := λ x => x.k < s.length /\ x.j < 2 /\ 2 - x.j <= m /\ s.length - x.k <= q /\ x.l = Ea s x.k (x.j + 1), meas := λ _ => 0, first := f }
def C_ends : Ctr := { α := List Gau, xs := λ l => [.d (BE l)], L := λ _ => [], val := λ l => .d (ePts (AA l)), keep := λ _ => [], pre := λ l => [l.length < 1073741824 /\ True] }
def BLR (s : List Gau) : Ann := { ann 42 [(AQH, orS (C_conO.spec dPo) (C_conP.spec dPP))] with mt := λ id => id == 10, loops := λ id => if id = 3 then some [enN s, enO s] else none, inner := λ gs id => if id = 6 then (if gs.getD 1 0 = 0 then some [enA s, enB s (gs.getD 0 0)] else some [enB s (gs.getD 0 0)]) else none, cutIn := λ gs id => if id = 11 then some [enC s (gs.getD 0 0) (gs.getD 1 0) [(301, 11048)], enC s (gs.getD 0 0) (gs.getD 1 0) []] else none }
def BJU (s : List Gau) : Prop := AO Try.prog (BLR s) AYU (AF AYU) (C_ends.xs s) (AC []) (C_ends.val s) [] [] [301]
abbrev CU : Prop := (0 : Nat) = (0 : Nat)
abbrev ADQ : Prop := ∀ (i : Nat), i < (0 : Nat) -> false = false
abbrev OG (s : List Gau) : Prop := ∀ (i : Nat), i < s.length -> (gD s i).st = (gD s i).st /\ (gD s i).lo = (gD s i).lo /\ (gD s i).hi = (gD s i).hi
abbrev OE (s : List Gau) : Prop := (↑s.length : Int) = (↑s.length : Int)
abbrev kA : Prop := Int.ofNat (0 : Nat) = Int.ofNat (0 : Nat)
abbrev AIO (s : List Gau) : Prop := (↑(0 : Nat) : Int) < (↑s.length : Int)
abbrev AIT : Prop := (0 : Int) <= (↑(0 : Nat) : Int)
abbrev EX : Prop := (2 : Nat) = (2 : Nat)
abbrev QI : Prop := Int.ofNat (2 : Nat) = Int.ofNat (2 : Nat)
abbrev Ey (s : List Gau) : Int := (gD s (0 : Nat)).st
abbrev xB (s : List Gau) : Prop := Ey s = Ey s
abbrev PI (s : List Gau) : Int := (gD s (0 : Nat)).lo
abbrev OV (s : List Gau) : Int := (gD s (0 : Nat)).hi
abbrev rR (s : List Gau) : List Int := [PI s, OV s]
abbrev tO (s : List Gau) (i : Nat) : Int := gD (rR s) i
abbrev xU (i : Nat) : Bool := decide (i = (0 : Nat))
abbrev wQ (s : List Gau) : Prop := (Nat.succ (0 : Nat)).le s.length
abbrev z_ends_17 : Nat := (0 : Nat) + (0 : Nat)
abbrev Ns (s : List Gau) : Int := gD (rR s) z_ends_17
abbrev Pi : Prop := (0 : Nat) < (1 : Nat)
abbrev pN : Prop := (1 : Nat) <= (1 : Nat) /\ (Pi -> EX)
abbrev nI (a : PtJ) : Prop := a.l.length = (1 : Nat)
abbrev qQ (s : List Gau) (a : PtJ) : List Int := [(gD s a.k).lo, (gD s a.k).hi]
abbrev VV (s : List Gau) (a : PtJ) (i : Nat) : Int := gD (qQ s a) i
abbrev Md (a : PtJ) : Prop := a.j < (2 : Nat)
abbrev LA (a : PtJ) : Nat := (2 : Nat) - a.j
abbrev oA (s : List Gau) (a : PtJ) : Nat := s.length - a.k
abbrev yH (s : List Gau) : Nat := s.length + (1 : Nat)
abbrev pA (s : List Gau) (a : PtJ) : Prop := oA s a <= yH s
abbrev zM (a : PtJ) (s : List Gau) : Prop := a.l = Ea s a.k (a.j + (1 : Nat))
abbrev sO (s : List Gau) (a : PtJ) : Prop := pA s a /\ zM a s
abbrev uL (a : PtJ) (s : List Gau) : Prop := a.k < s.length /\ Md a /\ LA a <= (3 : Nat) /\ sO s a
abbrev Ky (a : PtJ) (a1 : PtJ) : Prop := a.l.length = a1.l.length
abbrev qO (a : PtJ) (a1 : PtJ) : Prop := (↑a.k : Int) = (↑a1.k : Int)
abbrev wS (s : List Gau) (a : PtJ) (a1 : PtJ) : Prop := (gD s a.k).st = (gD s a1.k).st /\ (gD s a.k).lo = (gD s a1.k).lo /\ (gD s a.k).hi = (gD s a1.k).hi /\ EX /\ ∀ (i : Nat), i < (2 : Nat) -> VV s a i =
 VV s a1 i
abbrev sI (s : List Gau) (a : PtJ) (a1 : PtJ) : Prop := s.length = s.length /\ OG s /\ OE s /\ qO a a1 /\ Ky a a1 /\ (∀ (i : Nat), i < a.l.length -> (gD a.l i).st = (gD a1.l i).st /\ (gD a.l
 i).fl = (gD a1.l i).fl) /\ wS s a a1
abbrev Qd (a : PtJ) (a1 : PtJ) (s : List Gau) : Prop := CU /\ Ky a a1 /\ CU /\ EX /\ QI /\ (↑a.j : Int) = IntKind.i64.wrap ((↑a1.j : Int) + (1 : Int)) /\ sI s a a1
abbrev A4 (a : PtJ) : Prop := a.j <= (2 : Nat)
abbrev sD (a : PtJ) (s : List Gau) : Prop := a.l = Ea s a.k a.j
abbrev Nx (a : PtJ) (s : List Gau) : Prop := a.k < s.length /\ A4 a /\ pA s a /\ sD a s
abbrev zJ (s : List Gau) : Prop := ∀ (a : PtJ), uL a s -> ∃ (a_2 : PtJ), Qd a_2 a s /\ Nx a_2 s /\ LA a_2 < (3 : Nat)
abbrev rH (a : PtJ) : Bool := decide ((↑a.j : Int) < (2 : Int))
abbrev rG (a : PtJ) : Nat := (0 : Nat) + a.j
abbrev pR (a : PtJ) : Prop := ((0 : Int) <= (↑a.j : Int) /\ (↑a.j : Int) < (↑(2 : Nat) : Int)) /\ (rG a).succ.le (2 : Nat)
abbrev Pz (a : PtJ) : List Pt := AD a.l.length λ (i : Nat) => gD a.l i
abbrev TM (a : PtJ) : Nat := (Pz a).length
abbrev pK (a : PtJ) : Prop := TM a = a.l.length
abbrev XQ (s : List Gau) (a : PtJ) : Int := gD (qQ s a) (rG a)
abbrev rX (a : PtJ) (i : Nat) : Pt := gD (Pz a) i
abbrev rQ (a : PtJ) (i : Nat) : Int := (rX a i).st
abbrev mO (a : PtJ) (i : Nat) : Int := (rX a i).fl
abbrev yP (a : PtJ) (s : List Gau) : Prop := CU /\ pK a /\ (gD s a.k).st = (gD s a.k).st /\ XQ s a = XQ s a /\ pK a /\ (∀ (i : Nat), i < TM a -> rQ a i = (gD a.l i).st /\
 mO a i = (gD a.l i).fl) /\ a.l.length = TM a /\ (∀ (i : Nat), i < a.l.length -> (gD a.l i).st = rQ a i /\ (gD a.l i).fl = mO a i) /\ TM a < (4611686018427387904 : Nat) /\ True
abbrev wP (a : PtJ) (s : List Gau) : Bool := !decide (Pt.mk (gD s a.k).st (XQ s a) ∈ Pz a)
abbrev Lm (a : PtJ) : Nat := a.l.length + (1 : Nat)
abbrev tF (a : PtJ) : Prop := (a.l.length = a.l.length /\ ((0 : Nat) < a.l.length -> EX)) /\ pN /\ (false = true -> Pi) /\ Lm a <= (9223372036854775807 : Nat) /\ Lm a * (16 : Nat) <=
 (140737488355328 : Nat)
abbrev qL (a : PtJ) (a1 : PtJ) : Prop := a.l.length = Lm a1
abbrev wJ (a : PtJ) (a1 : PtJ) : Prop := (↑a.j : Int) = (↑a1.j : Int)
abbrev wH (i : Nat) (a : PtJ) : Bool := decide (i < a.l.length)
abbrev tH (a : PtJ) (a1 : PtJ) (s : List Gau) : Prop := CU /\ qL a a1 /\ CU /\ EX /\ QI /\ wJ a a1 /\ s.length = s.length /\ OG s /\ OE s /\ qO a a1 /\ qL a a1
 /\ (∀ (i : Nat), i < a.l.length -> ((gD a.l i).st = bif wH i a1 then (gD a1.l i).st else (gD s a1.k).st) /\ (gD a.l i).fl = bif wH i a1 then (gD a1.l i).fl else XQ s a1) /\ wS s a a1
abbrev yY (a : PtJ) (a1 : PtJ) : Prop := LA a <= LA a1
abbrev Np (a : PtJ) (s : List Gau) (a1 : PtJ) : Prop := a.k < s.length /\ Md a /\ yY a a1 /\ sO s a
abbrev oQ (a : PtJ) (a1 : PtJ) (s : List Gau) : Prop := CU /\ Ky a a1 /\ CU /\ EX /\ QI /\ wJ a a1 /\ sI s a a1
abbrev tL (a : PtJ) (a1 : PtJ) : Prop := LA a < LA a1
abbrev zS (s : List Gau) (a : PtJ) : Prop := ∀ (a_1 : PtJ), Np a_1 s a -> ∃ (a_3 : PtJ), Qd a_3 a_1 s /\ Nx a_3 s /\ tL a_3 a
abbrev yE (a : PtK) (a1 : PtJ) : Prop := a.l.length = a1.l.length
abbrev xK (a : PtK) (a1 : PtJ) (s : List Gau) : Prop := CU /\ yE a a1 /\ s.length = s.length /\ OG s /\ OE s /\ (↑a.k : Int) = IntKind.i64.wrap ((↑a1.k : Int) + (1 : Int)) /\ yE a a1 /\ ∀
 (i : Nat), i < a.l.length -> (gD a.l i).st = (gD a1.l i).st /\ (gD a.l i).fl = (gD a1.l i).fl
abbrev Ms (a : PtK) (s : List Gau) : Prop := a.k <= s.length /\ (1 : Nat) <= a.k /\ a.l = JY s a.k
abbrev WX (s : List Gau) (a : PtK) : Nat := s.length - a.k
abbrev sG (s : List Gau) : Prop := (AA s).length = (0 : Nat)
abbrev tB (a : PtK) (s : List Gau) : Prop := (↑a.k : Int) < (↑s.length : Int)
abbrev A2 (a : PtJ) (a1 : PtK) : Prop := a.l.length = a1.l.length
abbrev sN (s : List Gau) (a : PtJ) (a1 : PtK) : Prop := oA s a <= WX s a1
abbrev Ql (a : PtJ) (s : List Gau) (a1 : PtK) : Prop := a.k < s.length /\ A4 a /\ sN s a a1 /\ sD a s
abbrev Mw (a : PtJ) (s : List Gau) (a1 : PtJ) (a2 : PtK) : Prop := a.k < s.length /\ Md a /\ yY a a1 /\ sN s a a2 /\ zM a s
abbrev qE (s : List Gau) (a : PtJ) (a1 : PtK) : Prop := ∀ (a_1 : PtJ), Mw a_1 s a a1 -> ∃ (a_3 : PtJ), Qd a_3 a_1 s /\ Ql a_3 s a1 /\ tL a_3 a
abbrev yB (a : PtK) (j : Nat) : Pt := gD a.l ((0 : Nat) + j)
theorem BPE (s : List Gau) : (BJU s) = ((∃ (a : One), (CU /\ ADQ /\ s.length = s.length /\ OG s /\ OE s /\ kA) /\ True) /\ (∀ (a : One), True -> bif decide (AIO s) then (AIT /\
 AIO s) /\ (∃ (a : One), (CU /\ ADQ /\ CU /\ EX /\ QI /\ kA /\ s.length = s.length /\ OG s /\ OE s /\ kA /\ xB s /\ PI s = PI s /\ OV s = OV
 s /\ EX /\ ∀ (i : Nat), i < (2 : Nat) -> tO s i = bif xU i then PI s else OV s) /\ wQ s) /\ (∀ (a : One), wQ s -> (((AIT /\ (↑(0 : Nat) : Int) < (↑(2 : Nat) : Int)) /\
 z_ends_17.succ.le (2 : Nat)) /\ (CU /\ CU /\ xB s /\ Ns s = Ns s /\ (0 : Nat) < (4611686018427387904 : Nat) /\ True) /\ ((True /\ ((0 : Nat) < (0 : Nat) -> (0 : Nat) = (2 : Nat))) /\ pN /\
 (true = true -> Pi) /\ (1 : Nat) <= (9223372036854775807 : Nat) /\ (16 : Nat) <= (140737488355328 : Nat)) /\ ∃ (a : PtJ), (CU /\ nI a /\ CU /\ EX /\ QI /\ (↑a.j : Int) = (↑(0 : Nat) : Int) /\
 s.length = s.length /\ OG s /\ OE s /\ (↑a.k : Int) = (↑(0 : Nat) : Int) /\ nI a /\ (∀ (i : Nat), i < a.l.length -> (gD a.l i).st = Ey s /\ (gD a.l i).fl = Ns s) /\ (gD s a.k).st = Ey s /\
 (gD s a.k).lo = PI s /\ (gD s a.k).hi = OV s /\ EX /\ ∀ (i : Nat), i < (2 : Nat) -> VV s a i = tO s i) /\ uL a s) /\ zJ s /\ zJ s) /\ ∀ (a : PtJ), Nx a s -> bif
 rH a then (pR a /\ yP a s /\ bif wP a s then tF a /\ ∃ (a_2 : PtJ), tH a_2 a s /\ Np a_2 s a else ∃ (a_2 : PtJ), oQ a_2 a s /\ Np a_2 s a) /\ zS s a /\
 zS s a else ∃ (a_2 : PtK), xK a_2 a s /\ Ms a_2 s /\ WX s a_2 < yH s else sG s /\ sG s) /\ ∀ (a : PtK), Ms a s -> bif decide (tB a s) then ((0 : Int) <= (↑a.k :
 Int) /\ tB a s) /\ (∃ (a_2 : PtJ), (CU /\ A2 a_2 a /\ CU /\ EX /\ QI /\ (↑a_2.j : Int) = (0 : Int) /\ s.length = s.length /\ OG s /\ OE s /\ (↑a_2.k : Int) = (↑a.k : Int) /\
 A2 a_2 a /\ (∀ (i : Nat), i < a_2.l.length -> (gD a_2.l i).st = (gD a.l i).st /\ (gD a_2.l i).fl = (gD a.l i).fl) /\ (gD s a_2.k).st = (gD s a.k).st /\ (gD s a_2.k).lo = (gD s a.k).lo /\ (gD s a_2.k).hi = (gD s a.k).hi
 /\ EX /\ ∀ (i : Nat), i < (2 : Nat) -> VV s a_2 i = bif xU i then (gD s a.k).lo else (gD s a.k).hi) /\ Ql a_2 s a) /\ ∀ (a_2 : PtJ), Ql a_2 s a -> bif rH a_2 then (pR a_2 /\
 yP a_2 s /\ bif wP a_2 s then tF a_2 /\ ∃ (a_4 : PtJ), tH a_4 a_2 s /\ Mw a_4 s a_2 a else ∃ (a_4 : PtJ), oQ a_4 a_2 s /\ Mw a_4 s a_2 a) /\ qE s a_2 a /\ qE s a_2
 a else ∃ (a_4 : PtK), xK a_4 a_2 s /\ Ms a_4 s /\ WX s a_4 < WX s a else (AA s).length = a.l.length /\ (0 : Nat) + a.l.length <= a.l.length /\ ∀ (j : Nat), j < (AA s).length -> (gD (AA s)
 j).st = (yB a j).st /\ (gD (AA s) j).fl = (yB a j).fl) := by kernel_rfl
theorem AHH (l : List Pt) (p : Pt) : (E7 l p).length <= l.length + 1 := by unfold E7; split <;> simp
theorem AHD {s : List Gau} {k : Nat} (h : k < s.length) : JY s (k + 1) = addG (JY s k) (gD s k) := by
 unfold JY; rw [DG h, List.foldl_append]; rfl
theorem PA {s : List Gau} : ∀ k, k <= s.length -> (JY s k).length <= 2 * k
 | 0, _ => by simp [JY]
 | k + 1, h => by
  rw [AHD (by omega)]
  have := PA (s := s) k (by omega)
  have h1 := AHH (JY s k) ⟨(gD s k).st, (gD s k).lo⟩
  have h2 := AHH (E7 (JY s k) ⟨(gD s k).st, (gD s k).lo⟩) ⟨(gD s k).st, (gD s k).hi⟩
  unfold addG; omega
theorem AYT {s : List Gau} {k j : Nat} (h : k < s.length) (hj : j < 2) : Ea s k (j + 1) = E7 (Ea s k j) ⟨(gD s k).st, gD [(gD s k).lo, (gD s k).hi] j⟩ := by
 match j, hj with
 | 0, _ => rfl
 | 1, _ => exact AHD h
theorem BCY {s : List Gau} {k j : Nat} (h : k < s.length) (hj : j <= 2) : (Ea s k j).length <= 2 * s.length := by
 match j, hj with
 | 0, _ => have := PA (s := s) k (by omega); show (JY s k).length <= _; omega
 | 1, _ =>
  have := PA (s := s) k (by omega)
  have h1 := AHH (JY s k) ⟨(gD s k).st, (gD s k).lo⟩
  show (E7 _ _).length <= _; omega
 | 2, _ => have := PA (s := s) (k + 1) (by omega); show (JY s (k + 1)).length <= _; omega
theorem BPR {l : List Pt} {p : Pt} (h : p ∈ l) : E7 l p = l := if_pos h
theorem BJJ {l : List Pt} {p : Pt} (h : ¬ p ∈ l) : E7 l p = l ++ [p] := if_neg h
theorem BQM (l : List Pt) (p : Pt) (i : Nat) (hi : i < (l ++ [p]).length) : ((gD (l ++ [p]) i).st = bif decide (i < l.length) then (gD l i).st else p.st) /\ (gD (l ++ [p]) i).fl = bif decide (i < l.length) then (gD l i).fl else p.fl := by
 rw [eG _ _ (by simpa using hi)]
 cases decide (i < l.length) <;> exact ⟨rfl, rfl⟩
theorem BUL (s : List Gau) (hn : s.length < 1073741824) : BJU s := by
 rw [BPE]; delta CU ADQ OG OE kA AIO AIT EX QI Ey xB PI OV rR tO xU wQ z_ends_17 Ns Pi pN nI qQ VV Md LA oA yH pA zM sO uL Ky qO wS sI Qd A4 sD Nx zJ rH rG pR Pz TM pK XQ rX rQ mO yP wP Lm tF qL wJ wH tH yY Np oQ tL zS yE xK Ms WX sG tB A2 sN Ql Mw qE yB; simp only [CC, eq_self, implies_true, forall_const]
 have cut : ∀ (q m : Nat) (c : PtJ), c.k < s.length /\ c.j < 2 /\ 2 - c.j <= m /\ s.length - c.k <= q /\ c.l = Ea s c.k (c.j + 1) -> ∃ b : PtJ, (b.l.length = c.l.length /\ (b.j : Int) = IntKind.i64.wrap ((c.j : Int) + 1) /\ (b.k : Int) = c.k /\ b.l.length = c.l.length /\ (∀ (i : Nat), i < b.l.length -> (gD b.l i).st = (gD c.l i).st /\ (gD b.l i).fl = (gD c.l i).fl) /\ (gD s b.k).st = (gD s c.k).st /\ (gD s b.k).lo = (gD s c.k).lo /\ (gD s b.k).hi = (gD s c.k).hi /\ ∀ (i : Nat), i < 2 -> gD [(gD s b.k).lo, (gD s b.k).hi] i = gD [(gD s c.k).lo, (gD s c.k).hi] i) /\ (b.k < s.length /\ b.j <= 2 /\ s.length - b.k <= q /\ b.l = Ea s b.k b.j) /\ 2 - b.j < m := λ q m c hc =>
  ⟨⟨c.k, c.j + 1, c.l⟩, ⟨rfl, (BH (by omega)).symm, rfl, rfl, λ _ _ => ⟨rfl, rfl⟩, rfl, rfl, rfl, λ _ _ => rfl⟩, ⟨hc.1, by show c.j + 1 <= 2; omega, hc.2.2.2.1, hc.2.2.2.2⟩, by show 2 - (c.j + 1) < m; omega⟩
 have go : ∀ (q : Nat) (b : PtJ), b.k < s.length /\ b.j <= 2 /\ s.length - b.k <= q /\ b.l = Ea s b.k b.j -> (b.j : Int) < 2 -> b.l.length < 4611686018427387904 /\ b.l.length < 9223372036854775807 /\ (b.l.length + 1) * 16 <= 140737488355328 /\ ∀ p : Pt, p = ⟨(gD s b.k).st, gD [(gD s b.k).lo, (gD s b.k).hi] b.j⟩ -> (¬ p ∈ b.l -> b.l ++ [p] = Ea s b.k (b.j + 1)) /\ (p ∈ b.l -> b.l = Ea s b.k (b.j + 1)) := λ q b hb hj => by
  have hl := BCY hb.1 hb.2.1
  rw [<- hb.2.2.2] at hl
  refine ⟨by omega, by omega, by omega, λ p hp => ?_⟩
  rw [AYT hb.1 (by omega), <- hb.2.2.2, <- hp]
  exact ⟨λ h => (BJJ h).symm, λ h => (BPR h).symm⟩
 have two : ∀ (g : Gau) (i : Nat), i < 2 -> gD [g.lo, g.hi] i = bif decide (i = 0) then g.lo else g.hi := λ g i hi => by
  match i, hi with
  | 0, _ => rfl
  | 1, _ => rfl
 refine ⟨⟨default, trivial⟩, ⟨λ h0 => ⟨⟨by omega, by omega⟩, ⟨default, two _, by omega⟩, λ h1 => ⟨⟨⟨by omega, by omega⟩, by omega, by simp, ⟨⟨0, 0, [⟨(gD s 0).st, (gD s 0).lo⟩]⟩, ⟨rfl, rfl, rfl, rfl, λ i hi => ?_, rfl, rfl, rfl, λ _ _ => rfl⟩, h1, by simp, by simp, by simp, rfl⟩⟩, cut _ _⟩,
  λ b hb => ⟨λ hj => ⟨⟨⟨by omega, by omega⟩, (go _ b hb hj).1, λ hm => ⟨⟨by simp, by simp, (go _ b hb hj).2.1, (go _ b hb hj).2.2.1⟩, ⟨b.k, b.j, b.l ++ [_]⟩, ⟨by simp, rfl, rfl, by simp, BQM b.l _, rfl, rfl, rfl, λ _ _ => rfl⟩, hb.1, by show b.j < 2; omega, Nat.le_refl _, hb.2.2.1, ((go _ b hb hj).2.2.2 _ rfl).1 hm⟩, λ hm => ⟨⟨b.k, b.j, b.l⟩, ⟨rfl, rfl, rfl, rfl, λ _ _ => ⟨rfl, rfl⟩, rfl, rfl, rfl, λ _ _ => rfl⟩, hb.1, by show b.j < 2; omega, Nat.le_refl _, hb.2.2.1, ((go _ b hb hj).2.2.2 _ rfl).2 hm⟩⟩, cut _ _⟩, λ hj => ?_⟩⟩, λ h0 => ?_⟩,
  λ a ha => ⟨λ hk => ⟨⟨by omega, by omega⟩, ⟨⟨a.k, 0, a.l⟩, ⟨rfl, rfl, rfl, rfl, λ _ _ => ⟨rfl, rfl⟩, rfl, rfl, rfl, two _⟩, by show a.k < _; omega, by simp, Nat.le_refl _, ha.2.2⟩,
  λ b hb => ⟨λ hj => ⟨⟨⟨by omega, by omega⟩, (go _ b hb hj).1, λ hm => ⟨⟨by simp, by simp, (go _ b hb hj).2.1, (go _ b hb hj).2.2.1⟩, ⟨b.k, b.j, b.l ++ [_]⟩, ⟨by simp, rfl, rfl, by simp, BQM b.l _, rfl, rfl, rfl, λ _ _ => rfl⟩, hb.1, by show b.j < 2; omega, Nat.le_refl _, hb.2.2.1, ((go _ b hb hj).2.2.2 _ rfl).1 hm⟩, λ hm => ⟨⟨b.k, b.j, b.l⟩, ⟨rfl, rfl, rfl, rfl, λ _ _ => ⟨rfl, rfl⟩, rfl, rfl, rfl, λ _ _ => rfl⟩, hb.1, by show b.j < 2; omega, Nat.le_refl _, hb.2.2.1, ((go _ b hb hj).2.2.2 _ rfl).2 hm⟩⟩, cut _ _⟩, λ hj => ?_⟩⟩, λ hk => ?_⟩⟩
 ·have : i = 0 := by have hi : i < 1 := hi; omega
  subst this; exact ⟨rfl, rfl⟩
 ·have h2 : b.j = 2 := by omega
  exact ⟨⟨b.k + 1, b.l⟩, ⟨rfl, (BH (by omega)).symm, rfl, λ _ _ => ⟨rfl, rfl⟩⟩, ⟨by show b.k + 1 <= _; omega, Nat.succ_pos _, by rw [hb.2.2.2, h2]; rfl⟩, by show s.length - (b.k + 1) < _; omega⟩
 ·have : s = [] := List.eq_nil_of_length_eq_zero (by omega)
  subst this; rfl
 ·have h2 : b.j = 2 := by omega
  exact ⟨⟨b.k + 1, b.l⟩, ⟨rfl, (BH (by omega)).symm, rfl, λ _ _ => ⟨rfl, rfl⟩⟩, ⟨by show b.k + 1 <= _; omega, Nat.succ_pos _, by rw [hb.2.2.2, h2]; rfl⟩, by show s.length - (b.k + 1) < _; omega⟩
 ·have e : a.l = AA s := by rw [ha.2.2]; unfold JY AA; rw [List.take_of_length_le (by omega)]
  rw [<- e]
  exact ⟨rfl, Nat.le_refl _, λ _ _ => ⟨rfl, rfl⟩⟩
theorem eZ : AG Try.prog ACA (C_ends.spec JW) := GD C_ends BLR [] [301] BMU (λ _ => by kernel_rfl) (λ _ => AB (oM BNF BOP) AE) (λ (s : List Gau) h => BUL s (show s.length < 1073741824 /\ True from h).1) (λ _ => GJ rfl rfl) _
end Go.Bal
