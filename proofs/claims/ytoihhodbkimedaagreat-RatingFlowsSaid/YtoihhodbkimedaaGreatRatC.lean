/- Package rating: ends of spans. -/
import Derived.Test.YtoihhodbkimedaaGreatRatB
set_option linter.unusedVariables false
set_option linter.unusedSimpArgs false
namespace Go.Bal
open Go Go.Sym Go.Proofs
structure PP where
 l : List Pt
 p : Pt
def oA (p q : Pt) : Bool := p.st == q.st && p.fl == q.fl
def dPP : List AVal -> Heap -> Option (PP × List (Nat × Nat) × List Nat)
 | [y, .d p], H => match dPts y H with
  | some (l, f) => some (⟨l, dPt p⟩, [], f)
  | none => none
 | _, _ => none
def xPP (a : PP) : List AVal := [.d (ePts a.l), .d (ePt a.p)]
def C_idxP : Ctr := { α := PP, xs := xPP, L := λ _ => [], val := λ a => .int (FE (λ i => oA a.p (gD a.l i)) a.l.length 0), keep := λ _ => [], pre := λ a => [a.l.length < 4611686018427387904 /\ True] }
def CEB (a : PP) : Ann := { ann 19 [] with loops := λ id => if id = 2 then some [{ α := Nat, dflt := 0, T := λ k => ⟨[(0, .d (ePts a.l)), (3, .bptr 201 0), (7, .int a.l.length), (8, .int k)], [(201, .live (.box [.int a.p.st, .int a.p.fl]))]⟩, inv := λ k => k <= a.l.length /\ FE (λ i => oA a.p (gD a.l i)) a.l.length 0 = FE (λ i => oA a.p (gD a.l i)) (a.l.length - k) k, meas := λ k => a.l.length - k, first := [(201, 1000)] }] else none }
def BZP (a : PP) : Prop := AN Try.prog (CEB a) AXW (AF AXW) (xPP a) (AC []) (C_idxP.val a) [] [] []
theorem CNL (a : PP) : (BZP a) = ((∃ (a_1 : Nat), (a.l.length = a.l.length /\ (∀ (i : Nat), i < a.l.length -> (gD a.l i).st = (gD a.l i).st /\ (gD a.l i).fl = (gD a.l i).fl) /\ (↑a.l.length : Int) = (↑a.l.length :
 Int) /\ (↑a_1 : Int) = 0 /\ a.p.st = a.p.st /\ a.p.fl = a.p.fl) /\ a_1 <= a.l.length /\ FE (λ (i : Nat) => oA a.p (gD a.l i)) a.l.length 0 = FE (λ (i : Nat) => oA a.p (gD a.l i)) (a.l.length - a_1) a_1) /\ ∀ (a_1 :
 Nat), a_1 <= a.l.length /\ FE (λ (i : Nat) => oA a.p (gD a.l i)) a.l.length 0 = FE (λ (i : Nat) => oA a.p (gD a.l i)) (a.l.length - a_1) a_1 -> bif decide ((↑a_1 : Int) < (↑a.l.length : Int)) then (0 <= (↑a_1 : Int)
 /\ (↑a_1 : Int) < (↑a.l.length : Int)) /\ bif a.p.st == (gD a.l a_1).st && (a.p.fl == (gD a.l a_1).fl && true) then FE (λ (i : Nat) => oA a.p (gD a.l i)) a.l.length 0 = (↑a_1 : Int) else ∃ (a_3 : Nat), (a.l.length =
 a.l.length /\ (∀ (i : Nat), i < a.l.length -> (gD a.l i).st = (gD a.l i).st /\ (gD a.l i).fl = (gD a.l i).fl) /\ (↑a.l.length : Int) = (↑a.l.length : Int) /\ (↑a_3 : Int) = IntKind.i64.wrap ((↑a_1 : Int) + 1) /\ a.p.st =
 a.p.st /\ a.p.fl = a.p.fl) /\ (a_3 <= a.l.length /\ FE (λ (i : Nat) => oA a.p (gD a.l i)) a.l.length 0 = FE (λ (i : Nat) => oA a.p (gD a.l i)) (a.l.length - a_3) a_3) /\ a.l.length - a_3 < a.l.length - a_1 else FE
 (λ (i : Nat) => oA a.p (gD a.l i)) a.l.length 0 = -1) := by kernel_rfl
def rowP (l : List Pt) : AObj := .row 2 l.length λ i => ePt (gD l i)
def xPo (a : PP) : List AVal := [.own 100 2 0 a.l.length, .d (ePt a.p)]
def dPo : List AVal -> Heap -> Option (PP × List (Nat × Nat) × List Nat)
 | [.own id _ _ n, .d p], H => match H id with
  | .live (.row _ _ g) => some (⟨AE n λ i => dPt (g i), dPt p⟩, [(100, id)], [])
  | _ => none
 | _, _ => none
def C_idxO : Ctr := { ro := [100], α := PP, xs := xPo, L := λ a => [(100, rowP a.l)], val := λ a => .int (FE (λ i => oA a.p (gD a.l i)) a.l.length 0), keep := λ a => [(100, .live (rowP a.l))], pre := λ a => [a.l.length < 4611686018427387904 /\ True] }
def CJF (a : PP) : Ann := { ann 19 [] with E := [100], loops := λ id => if id = 2 then some [{ α := Nat, dflt := 0, T := λ k => ⟨[(0, .own 100 2 0 a.l.length), (3, .bptr 201 0), (7, .int a.l.length), (8, .int k)], [(100, .live (rowP a.l)), (201, .live (.box [.int a.p.st, .int a.p.fl]))]⟩, inv := λ k => k <= a.l.length /\ FE (λ i => oA a.p (gD a.l i)) a.l.length 0 = FE (λ i => oA a.p (gD a.l i)) (a.l.length - k) k, meas := λ k => a.l.length - k, first := [(201, 1000)] }] else none }
def CEX (a : PP) : Prop := AN Try.prog (CJF a) AXW (AF AXW) (xPo a) (AC (C_idxO.L a)) (C_idxO.val a) (C_idxO.keep a) [] []
theorem CJS (a : PP) : (CEX a) = ((∃ (a_1 : Nat), (0 = 0 /\ a.l.length = a.l.length /\ (↑a.l.length : Int) = (↑a.l.length : Int) /\ (↑a_1 : Int) = 0 /\ a.l.length = a.l.length /\ (∀ (i : Nat), i < a.l.length -> (gD a.l
 i).st = (gD a.l i).st /\ (gD a.l i).fl = (gD a.l i).fl) /\ a.p.st = a.p.st /\ a.p.fl = a.p.fl) /\ a_1 <= a.l.length /\ FE (λ (i : Nat) => oA a.p (gD a.l i)) a.l.length 0 = FE (λ (i : Nat) => oA a.p (gD a.l i))
 (a.l.length - a_1) a_1) /\ ∀ (a_1 : Nat), a_1 <= a.l.length /\ FE (λ (i : Nat) => oA a.p (gD a.l i)) a.l.length 0 = FE (λ (i : Nat) => oA a.p (gD a.l i)) (a.l.length - a_1) a_1 -> bif decide ((↑a_1 : Int) <
 (↑a.l.length : Int)) then ((0 <= (↑a_1 : Int) /\ (↑a_1 : Int) < (↑a.l.length : Int)) /\ (0 + a_1).succ.le a.l.length) /\ bif a.p.st == (gD a.l (0 + a_1)).st && (a.p.fl == (gD a.l (0 + a_1)).fl && true) then FE (λ (i :
 Nat) => oA a.p (gD a.l i)) a.l.length 0 = (↑a_1 : Int) /\ a.l.length = a.l.length /\ ∀ (i : Nat), i < a.l.length -> (gD a.l i).st = (gD a.l i).st /\ (gD a.l i).fl = (gD a.l i).fl else ∃ (a_3 : Nat), (0 = 0 /\ a.l.length =
 a.l.length /\ (↑a.l.length : Int) = (↑a.l.length : Int) /\ (↑a_3 : Int) = IntKind.i64.wrap ((↑a_1 : Int) + 1) /\ a.l.length = a.l.length /\ (∀ (i : Nat), i < a.l.length -> (gD a.l i).st = (gD a.l i).st /\ (gD a.l i).fl = (gD
 a.l i).fl) /\ a.p.st = a.p.st /\ a.p.fl = a.p.fl) /\ (a_3 <= a.l.length /\ FE (λ (i : Nat) => oA a.p (gD a.l i)) a.l.length 0 = FE (λ (i : Nat) => oA a.p (gD a.l i)) (a.l.length - a_3) a_3) /\ a.l.length - a_3 <
 a.l.length - a_1 else FE (λ (i : Nat) => oA a.p (gD a.l i)) a.l.length 0 = -1 /\ a.l.length = a.l.length /\ ∀ (i : Nat), i < a.l.length -> (gD a.l i).st = (gD a.l i).st /\ (gD a.l i).fl = (gD a.l i).fl) := by kernel_rfl
theorem CPW (p q : Pt) : (p.st == q.st && (p.fl == q.fl && true)) = oA p q := by unfold oA; rw [Bool.and_true]
theorem CGJ {p : Nat -> Bool} {n : Nat} (h : n < 4611686018427387904) : (∃ a : Nat, (a : Int) = 0 /\ a <= n /\ FE p n 0 = FE p (n - a) a) /\ ∀ a : Nat, a <= n /\ FE p n 0 = FE p (n - a) a -> ((a : Int) < n -> (0 <= (a : Int) /\ (a : Int) < n) /\ (p a = true -> FE p n 0 = a) /\ (p a = false -> ∃ b : Nat, (b : Int) = IntKind.i64.wrap ((a : Int) + 1) /\ (b <= n /\ FE p n 0 = FE p (n - b) b) /\ n - b < n - a)) /\ (¬(a : Int) < n -> FE p n 0 = -1) := by
 refine ⟨⟨0, rfl, Nat.zero_le _, rfl⟩, λ a ⟨h1, h2⟩ => ⟨λ hlt => ?_, λ hge => ?_⟩⟩
 ·have hlt : a < n := by omega
  refine ⟨⟨by omega, by omega⟩, λ hp => ?_, λ hp => ⟨a + 1, (BF (by omega)).symm, ⟨by omega, ?_⟩, by omega⟩⟩
  ·rw [h2]; exact pR hlt hp
  ·rw [h2]; exact BJC hlt hp
 ·rw [h2]; exact AIS (by omega)
theorem CLZ : AG Try.prog APR (C_idxP.spec dPP) := HR C_idxP CEB [] [] BXJ (λ _ => by kernel_rfl) (λ _ => AD) (λ (a : PP) h => by
 show BZP a; rw [CNL]; simp only [CC, eq_self, implies_true, forall_const, CPW]
 have h : a.l.length < 4611686018427387904 /\ True := h
 exact CGJ h.1) (λ _ => IN rfl rfl) _
theorem CNY : AG Try.prog APR (C_idxO.spec dPo) := HR C_idxO CJF [] [] BXJ (λ _ => by kernel_rfl) (λ _ => AD) (λ (a : PP) h => by
 show CEX a; rw [CJS]; simp only [CC, eq_self, implies_true, forall_const, CPW]
 have h : a.l.length < 4611686018427387904 /\ True := h
 obtain ⟨e1, e2⟩ := CGJ (p := λ i => oA a.p (gD a.l i)) h.1
 exact ⟨e1, λ k hk => ⟨λ hl => ⟨⟨((e2 k hk).1 hl).1, by omega⟩, ((e2 k hk).1 hl).2⟩, (e2 k hk).2⟩⟩) (λ _ => IN rfl rfl) _
theorem BUJ {a : PP} : decide (a.p ∈ a.l) = decide (FE (λ i => oA a.p (gD a.l i)) a.l.length 0 >= 0) := by
 rw [Bool.eq_iff_iff]
 simp only [decide_eq_true_eq, ge_iff_le, BSK, Nat.zero_le, Nat.zero_add, true_and]
 have e : ∀ q : Pt, oA a.p q = true ↔ a.p = q := λ q => by
  obtain ⟨⟨⟩, ⟨x, y⟩⟩ := a
  all_goals obtain ⟨z, w⟩ := q; simp [oA]
 constructor
 ·intro h
  obtain ⟨i, hi, hx⟩ := HM h
  exact ⟨i, hi, (e _).2 hx.symm⟩
 ·rintro ⟨i, hi, hx⟩
  rw [(e _).1 hx]; exact BM hi
def C_conO : Ctr := { C_idxO with val := λ (a : PP) => .bool (decide (a.p ∈ a.l)) }
def CGB : Ann := { ann 9 [(APR, C_idxO.spec dPo)] with E := [100] }
def CEJ (a : PP) : Prop := AN Try.prog CGB APT (AF APT) (xPo a) (AC (C_conO.L a)) (C_conO.val a) (C_conO.keep a) [] []
theorem CLA (a : PP) : (CEJ a) = ((0 = 0 /\ (AE a.l.length λ (i : Nat) => gD a.l i).length = a.l.length /\ a.p.st = a.p.st /\ a.p.fl = a.p.fl /\ (AE a.l.length λ (i : Nat) => gD a.l i).length = a.l.length /\ (∀
 (i : Nat), i < (AE a.l.length λ (i : Nat) => gD a.l i).length -> (gD (AE a.l.length λ (i : Nat) => gD a.l i) i).st = (gD a.l i).st /\ (gD (AE a.l.length λ (i : Nat) => gD a.l i) i).fl = (gD a.l i).fl) /\ a.l.length
 = (AE a.l.length λ (i : Nat) => gD a.l i).length /\ (∀ (i : Nat), i < a.l.length -> (gD a.l i).st = (gD (AE a.l.length λ (i : Nat) => gD a.l i) i).st /\ (gD a.l i).fl = (gD (AE a.l.length λ (i : Nat) => gD a.l i)
 i).fl) /\ (AE a.l.length λ (i : Nat) => gD a.l i).length < 4611686018427387904 /\ True) /\ decide (a.p ∈ a.l) = decide (FE (λ (i : Nat) => oA a.p (gD (AE a.l.length λ (i : Nat) => gD a.l i) i)) (AE a.l.length fun
 (i : Nat) => gD a.l i).length 0 >= 0) /\ a.l.length = a.l.length /\ ∀ (i : Nat), i < a.l.length -> (gD a.l i).st = (gD a.l i).st /\ (gD a.l i).fl = (gD a.l i).fl) := by kernel_rfl
def C_conP : Ctr := { C_idxP with val := λ (a : PP) => .bool (decide (a.p ∈ a.l)) }
def CFP : Ann := ann 9 [(APR, C_idxP.spec dPP)]
def CHA (a : PP) : Prop := AN Try.prog CFP APT (AF APT) (xPP a) (AC []) (C_conP.val a) [] [] []
theorem CJK (a : PP) : (CHA a) = (((AE a.l.length λ (i : Nat) => gD a.l i).length = a.l.length /\ (∀ (i : Nat), i < (AE a.l.length λ (i : Nat) => gD a.l i).length -> (gD (AE a.l.length λ (i : Nat) => gD a.l
 i) i).st = (gD a.l i).st /\ (gD (AE a.l.length λ (i : Nat) => gD a.l i) i).fl = (gD a.l i).fl) /\ a.p.st = a.p.st /\ a.p.fl = a.p.fl /\ (AE a.l.length λ (i : Nat) => gD a.l i).length < 4611686018427387904 /\ True) /\
 decide (a.p ∈ a.l) = decide (FE (λ (i : Nat) => oA a.p (gD (AE a.l.length λ (i : Nat) => gD a.l i) i)) (AE a.l.length λ (i : Nat) => gD a.l i).length 0 >= 0)) := by kernel_rfl
theorem CLP : AG Try.prog BKS (C_conO.spec dPo) := Ctr.spec_ok (C := C_conO) (λ (a : PP) h => KZ (A := CGB) (ren := []) (fz := []) BUQ (by kernel_rfl) (AB CNY AD) (by
 show CEJ a; rw [CLA]; simp only [CC, eq_self, implies_true, forall_const]
 have h : a.l.length < 4611686018427387904 /\ True := h
 exact ⟨h.1, BUJ⟩)) _
theorem CJU : AG Try.prog BKS (C_conP.spec dPP) := Ctr.spec_ok (C := C_conP) (λ (a : PP) h => KZ (A := CFP) (L := []) (keep := []) (ren := []) (fz := []) BUQ (by kernel_rfl) (AB CLZ AD) (by
 show CHA a; rw [CJK]; simp only [CC, eq_self, implies_true, forall_const]
 have h : a.l.length < 4611686018427387904 /\ True := h
 exact ⟨h.1, BUJ⟩)) _
def addP (l : List Pt) (p : Pt) : List Pt := if p ∈ l then l else l ++ [p]
def addG (l : List Pt) (g : Gau) : List Pt := addP (addP l ⟨g.st, g.lo⟩) ⟨g.st, g.hi⟩
def AA (s : List Gau) : List Pt := s.foldl addG []
def LO (s : List Gau) (k : Nat) : List Pt := (s.take k).foldl addG []
def Jb (s : List Gau) (k j : Nat) : List Pt := if j = 0 then LO s k else if j = 1 then addP (LO s k) ⟨(gD s k).st, (gD s k).lo⟩ else LO s (k + 1)
structure PtK where
 k : Nat
 l : List Pt
 deriving Inhabited
structure PtJ where
 k : Nat
 j : Nat
 l : List Pt
 deriving Inhabited
def enS (s : List Gau) (k : Nat) : List (Nat × AVal) := [(9, .d (AS s)), (10, .int s.length), (11, .int k)]
def enI (s : List Gau) (k j : Nat) : List (Nat × AVal) := [(5, .bptr 302 0), (21, .own 303 1 0 2), (22, .int 2), (23, .int j)] ++ enS s k
def enH (g : Gau) : List (Nat × HCell) := [(302, .live (.box [.int g.st, .int g.lo, .int g.hi])), (303, .live (.row 1 2 λ i => CU (gD [g.lo, g.hi] i)))]
def enN (s : List Gau) : Shape := { α := One, dflt := default, T := λ _ => ⟨(3, .d Hr) :: enS s 0, []⟩, inv := λ _ => True, meas := λ _ => s.length + 1, tag := [0] }
def enO (s : List Gau) : Shape := { α := PtK, dflt := default, T := λ x => ⟨(3, .own 301 2 0 x.l.length) :: enS s x.k, [(301, .live (rowP x.l))]⟩, inv := λ x => x.k <= s.length /\ 1 <= x.k /\ x.l = LO s x.k, meas := λ x => s.length - x.k, tag := [1] }
def enA (s : List Gau) : Shape := { α := One, dflt := default, T := λ _ => ⟨(3, .d Hr) :: enI s 0 0, enH (gD s 0)⟩, inv := λ _ => 0 < s.length, meas := λ _ => 3, first := [(302, 5032), (303, 6096)] }
def enB (s : List Gau) (q : Nat) : Shape := { α := PtJ, dflt := default, T := λ x => ⟨(3, .own 301 2 0 x.l.length) :: enI s x.k x.j, (301, .live (rowP x.l)) :: enH (gD s x.k)⟩, inv := λ x => x.k < s.length /\ x.j <= 2 /\ s.length - x.k <= q /\ x.l = Jb s x.k x.j, meas := λ x => 2 - x.j, first := [(302, 5032), (303, 6096)] }
def enC (s : List Gau) (m q : Nat) (f : List (Nat × Nat)) : Shape := { α := PtJ, dflt := default, T := λ x => ⟨(3, .own 301 2 0 x.l.length) :: enI s x.k x.j, (301, .live (rowP x.l)) :: enH (gD s x.k)⟩, inv := λ x => x.k < s.length /\ x.j < 2 /\ 2 - x.j <= m /\ s.length - x.k <= q /\ x.l = Jb s x.k (x.j + 1), meas := λ _ => 0, first := f }
def C_ends : Ctr := { α := List Gau, xs := λ l => [.d (AS l)], L := λ _ => [], val := λ l => .d (ePts (AA l)), keep := λ _ => [], pre := λ l => [l.length < 1073741824 /\ True] }
def CEZ (s : List Gau) : Ann := { ann 42 [(BKS, orS (C_conO.spec dPo) (C_conP.spec dPP))] with mt := λ id => id == 10, loops := λ id => if id = 3 then some [enN s, enO s] else none, inner := λ gs id => if id = 6 then (if gs.getD 1 0 = 0 then some [enA s, enB s (gs.getD 0 0)] else some [enB s (gs.getD 0 0)]) else none, cutIn := λ gs id => if id = 11 then some [enC s (gs.getD 0 0) (gs.getD 1 0) [(301, 11048)], enC s (gs.getD 0 0) (gs.getD 1 0) []] else none }
def CBX (s : List Gau) : Prop := AN Try.prog (CEZ s) BRL (AF BRL) (C_ends.xs s) (AC []) (C_ends.val s) [] [] [301]
abbrev DK : Prop := (0 : Nat) = (0 : Nat)
abbrev ARM : Prop := ∀ (i : Nat), i < (0 : Nat) -> false = false
abbrev PT (s : List Gau) : Prop := ∀ (i : Nat), i < s.length -> (gD s i).st = (gD s i).st /\ (gD s i).lo = (gD s i).lo /\ (gD s i).hi = (gD s i).hi
abbrev PJ (s : List Gau) : Prop := (↑s.length : Int) = (↑s.length : Int)
abbrev tT : Prop := Int.ofNat (0 : Nat) = Int.ofNat (0 : Nat)
abbrev ASZ (s : List Gau) : Prop := (↑(0 : Nat) : Int) < (↑s.length : Int)
abbrev ARX : Prop := (0 : Int) <= (↑(0 : Nat) : Int)
abbrev GF : Prop := (2 : Nat) = (2 : Nat)
abbrev SL : Prop := Int.ofNat (2 : Nat) = Int.ofNat (2 : Nat)
abbrev Mz (s : List Gau) : Int := (gD s (0 : Nat)).st
abbrev T9 (s : List Gau) : Prop := Mz s = Mz s
abbrev QZ (s : List Gau) : Int := (gD s (0 : Nat)).lo
abbrev RR (s : List Gau) : Int := (gD s (0 : Nat)).hi
abbrev zV (s : List Gau) : List Int := [QZ s, RR s]
abbrev ADN (s : List Gau) (i : Nat) : Int := gD (zV s) i
abbrev O5 (i : Nat) : Bool := decide (i = (0 : Nat))
abbrev zJ (s : List Gau) : Prop := (Nat.succ (0 : Nat)).le s.length
abbrev z_ends_17 : Nat := (0 : Nat) + (0 : Nat)
abbrev Ti (s : List Gau) : Int := gD (zV s) z_ends_17
abbrev Sx : Prop := (0 : Nat) < (1 : Nat)
abbrev U7 : Prop := (1 : Nat) <= (1 : Nat) /\ (Sx -> GF)
abbrev AFH (a : PtJ) : Prop := a.l.length = (1 : Nat)
abbrev ACQ (s : List Gau) (a : PtJ) : List Int := [(gD s a.k).lo, (gD s a.k).hi]
abbrev Ay (s : List Gau) (a : PtJ) (i : Nat) : Int := gD (ACQ s a) i
abbrev Ss (a : PtJ) : Prop := a.j < (2 : Nat)
abbrev MQ (a : PtJ) : Nat := (2 : Nat) - a.j
abbrev Q4 (s : List Gau) (a : PtJ) : Nat := s.length - a.k
abbrev H9 (s : List Gau) : Nat := s.length + (1 : Nat)
abbrev AAJ (s : List Gau) (a : PtJ) : Prop := Q4 s a <= H9 s
abbrev ABM (a : PtJ) (s : List Gau) : Prop := a.l = Jb s a.k (a.j + (1 : Nat))
abbrev ABG (s : List Gau) (a : PtJ) : Prop := AAJ s a /\ ABM a s
abbrev N4 (a : PtJ) (s : List Gau) : Prop := a.k < s.length /\ Ss a /\ MQ a <= (3 : Nat) /\ ABG s a
abbrev Xj (a : PtJ) (a1 : PtJ) : Prop := a.l.length = a1.l.length
abbrev AEU (a : PtJ) (a1 : PtJ) : Prop := (↑a.k : Int) = (↑a1.k : Int)
abbrev J8 (s : List Gau) (a : PtJ) (a1 : PtJ) : Prop := (gD s a.k).st = (gD s a1.k).st /\ (gD s a.k).lo = (gD s a1.k).lo /\ (gD s a.k).hi = (gD s a1.k).hi /\ GF /\ ∀ (i : Nat), i < (2 : Nat) -> Ay s a i =
 Ay s a1 i
abbrev xV (s : List Gau) (a : PtJ) (a1 : PtJ) : Prop := s.length = s.length /\ PT s /\ PJ s /\ AEU a a1 /\ Xj a a1 /\ (∀ (i : Nat), i < a.l.length -> (gD a.l i).st = (gD a1.l i).st /\ (gD a.l
 i).fl = (gD a1.l i).fl) /\ J8 s a a1
abbrev Sz (a : PtJ) (a1 : PtJ) (s : List Gau) : Prop := DK /\ Xj a a1 /\ DK /\ GF /\ SL /\ (↑a.j : Int) = IntKind.i64.wrap ((↑a1.j : Int) + (1 : Int)) /\ xV s a a1
abbrev P1 (a : PtJ) : Prop := a.j <= (2 : Nat)
abbrev A3 (a : PtJ) (s : List Gau) : Prop := a.l = Jb s a.k a.j
abbrev Wr (a : PtJ) (s : List Gau) : Prop := a.k < s.length /\ P1 a /\ AAJ s a /\ A3 a s
abbrev AEV (s : List Gau) : Prop := ∀ (a : PtJ), N4 a s -> ∃ (a_2 : PtJ), Sz a_2 a s /\ Wr a_2 s /\ MQ a_2 < (3 : Nat)
abbrev yO (a : PtJ) : Bool := decide ((↑a.j : Int) < (2 : Int))
abbrev G9 (a : PtJ) : Nat := (0 : Nat) + a.j
abbrev Q9 (a : PtJ) : Prop := ((0 : Int) <= (↑a.j : Int) /\ (↑a.j : Int) < (↑(2 : Nat) : Int)) /\ (G9 a).succ.le (2 : Nat)
abbrev Vc (a : PtJ) : List Pt := AE a.l.length λ (i : Nat) => gD a.l i
abbrev XB (a : PtJ) : Nat := (Vc a).length
abbrev AEL (a : PtJ) : Prop := XB a = a.l.length
abbrev Bt (s : List Gau) (a : PtJ) : Int := gD (ACQ s a) (G9 a)
abbrev F1 (a : PtJ) (i : Nat) : Pt := gD (Vc a) i
abbrev AER (a : PtJ) (i : Nat) : Int := (F1 a i).st
abbrev G0 (a : PtJ) (i : Nat) : Int := (F1 a i).fl
abbrev AAW (a : PtJ) (s : List Gau) : Prop := DK /\ AEL a /\ (gD s a.k).st = (gD s a.k).st /\ Bt s a = Bt s a /\ AEL a /\ (∀ (i : Nat), i < XB a -> AER a i = (gD a.l i).st /\
 G0 a i = (gD a.l i).fl) /\ a.l.length = XB a /\ (∀ (i : Nat), i < a.l.length -> (gD a.l i).st = AER a i /\ (gD a.l i).fl = G0 a i) /\ XB a < (4611686018427387904 : Nat) /\ True
abbrev J5 (a : PtJ) (s : List Gau) : Bool := !decide (Pt.mk (gD s a.k).st (Bt s a) ∈ Vc a)
abbrev Xk (a : PtJ) : Nat := a.l.length + (1 : Nat)
abbrev C9 (a : PtJ) : Prop := (a.l.length = a.l.length /\ ((0 : Nat) < a.l.length -> GF)) /\ U7 /\ (false = true -> Sx) /\ Xk a <= (9223372036854775807 : Nat) /\ Xk a * (16 : Nat) <=
 (140737488355328 : Nat)
abbrev yE (a : PtJ) (a1 : PtJ) : Prop := a.l.length = Xk a1
abbrev ACX (a : PtJ) (a1 : PtJ) : Prop := (↑a.j : Int) = (↑a1.j : Int)
abbrev U9 (i : Nat) (a : PtJ) : Bool := decide (i < a.l.length)
abbrev ACC (a : PtJ) (a1 : PtJ) (s : List Gau) : Prop := DK /\ yE a a1 /\ DK /\ GF /\ SL /\ ACX a a1 /\ s.length = s.length /\ PT s /\ PJ s /\ AEU a a1 /\ yE a a1
 /\ (∀ (i : Nat), i < a.l.length -> ((gD a.l i).st = bif U9 i a1 then (gD a1.l i).st else (gD s a1.k).st) /\ (gD a.l i).fl = bif U9 i a1 then (gD a1.l i).fl else Bt s a1) /\ J8 s a a1
abbrev AFG (a : PtJ) (a1 : PtJ) : Prop := MQ a <= MQ a1
abbrev Uf (a : PtJ) (s : List Gau) (a1 : PtJ) : Prop := a.k < s.length /\ Ss a /\ AFG a a1 /\ ABG s a
abbrev O9 (a : PtJ) (a1 : PtJ) (s : List Gau) : Prop := DK /\ Xj a a1 /\ DK /\ GF /\ SL /\ ACX a a1 /\ xV s a a1
abbrev V2 (a : PtJ) (a1 : PtJ) : Prop := MQ a < MQ a1
abbrev ADR (s : List Gau) (a : PtJ) : Prop := ∀ (a_1 : PtJ), Uf a_1 s a -> ∃ (a_3 : PtJ), Sz a_3 a_1 s /\ Wr a_3 s /\ V2 a_3 a
abbrev P7 (a : PtK) (a1 : PtJ) : Prop := a.l.length = a1.l.length
abbrev K2 (a : PtK) (a1 : PtJ) (s : List Gau) : Prop := DK /\ P7 a a1 /\ s.length = s.length /\ PT s /\ PJ s /\ (↑a.k : Int) = IntKind.i64.wrap ((↑a1.k : Int) + (1 : Int)) /\ P7 a a1 /\ ∀
 (i : Nat), i < a.l.length -> (gD a.l i).st = (gD a1.l i).st /\ (gD a.l i).fl = (gD a1.l i).fl
abbrev Ws (a : PtK) (s : List Gau) : Prop := a.k <= s.length /\ (1 : Nat) <= a.k /\ a.l = LO s a.k
abbrev XR (s : List Gau) (a : PtK) : Nat := s.length - a.k
abbrev yM (s : List Gau) : Prop := (AA s).length = (0 : Nat)
abbrev G5 (a : PtK) (s : List Gau) : Prop := (↑a.k : Int) < (↑s.length : Int)
abbrev U5 (a : PtJ) (a1 : PtK) : Prop := a.l.length = a1.l.length
abbrev AEA (s : List Gau) (a : PtJ) (a1 : PtK) : Prop := Q4 s a <= XR s a1
abbrev Xv (a : PtJ) (s : List Gau) (a1 : PtK) : Prop := a.k < s.length /\ P1 a /\ AEA s a a1 /\ A3 a s
abbrev Rg (a : PtJ) (s : List Gau) (a1 : PtJ) (a2 : PtK) : Prop := a.k < s.length /\ Ss a /\ AFG a a1 /\ AEA s a a2 /\ ABM a s
abbrev zU (s : List Gau) (a : PtJ) (a1 : PtK) : Prop := ∀ (a_1 : PtJ), Rg a_1 s a a1 -> ∃ (a_3 : PtJ), Sz a_3 a_1 s /\ Xv a_3 s a1 /\ V2 a_3 a
abbrev yX (a : PtK) (j : Nat) : Pt := gD a.l ((0 : Nat) + j)
theorem CKG (s : List Gau) : (CBX s) = ((∃ (a : One), (DK /\ ARM /\ s.length = s.length /\ PT s /\ PJ s /\ tT) /\ True) /\ (∀ (a : One), True -> bif decide (ASZ s) then (ARX /\
 ASZ s) /\ (∃ (a : One), (DK /\ ARM /\ DK /\ GF /\ SL /\ tT /\ s.length = s.length /\ PT s /\ PJ s /\ tT /\ T9 s /\ QZ s = QZ s /\ RR s = RR
 s /\ GF /\ ∀ (i : Nat), i < (2 : Nat) -> ADN s i = bif O5 i then QZ s else RR s) /\ zJ s) /\ (∀ (a : One), zJ s -> (((ARX /\ (↑(0 : Nat) : Int) < (↑(2 : Nat) : Int)) /\
 z_ends_17.succ.le (2 : Nat)) /\ (DK /\ DK /\ T9 s /\ Ti s = Ti s /\ (0 : Nat) < (4611686018427387904 : Nat) /\ True) /\ ((True /\ ((0 : Nat) < (0 : Nat) -> (0 : Nat) = (2 : Nat))) /\ U7 /\
 (true = true -> Sx) /\ (1 : Nat) <= (9223372036854775807 : Nat) /\ (16 : Nat) <= (140737488355328 : Nat)) /\ ∃ (a : PtJ), (DK /\ AFH a /\ DK /\ GF /\ SL /\ (↑a.j : Int) = (↑(0 : Nat) : Int) /\
 s.length = s.length /\ PT s /\ PJ s /\ (↑a.k : Int) = (↑(0 : Nat) : Int) /\ AFH a /\ (∀ (i : Nat), i < a.l.length -> (gD a.l i).st = Mz s /\ (gD a.l i).fl = Ti s) /\ (gD s a.k).st = Mz s /\
 (gD s a.k).lo = QZ s /\ (gD s a.k).hi = RR s /\ GF /\ ∀ (i : Nat), i < (2 : Nat) -> Ay s a i = ADN s i) /\ N4 a s) /\ AEV s /\ AEV s) /\ ∀ (a : PtJ), Wr a s -> bif
 yO a then (Q9 a /\ AAW a s /\ bif J5 a s then C9 a /\ ∃ (a_2 : PtJ), ACC a_2 a s /\ Uf a_2 s a else ∃ (a_2 : PtJ), O9 a_2 a s /\ Uf a_2 s a) /\ ADR s a /\
 ADR s a else ∃ (a_2 : PtK), K2 a_2 a s /\ Ws a_2 s /\ XR s a_2 < H9 s else yM s /\ yM s) /\ ∀ (a : PtK), Ws a s -> bif decide (G5 a s) then ((0 : Int) <= (↑a.k :
 Int) /\ G5 a s) /\ (∃ (a_2 : PtJ), (DK /\ U5 a_2 a /\ DK /\ GF /\ SL /\ (↑a_2.j : Int) = (0 : Int) /\ s.length = s.length /\ PT s /\ PJ s /\ (↑a_2.k : Int) = (↑a.k : Int) /\
 U5 a_2 a /\ (∀ (i : Nat), i < a_2.l.length -> (gD a_2.l i).st = (gD a.l i).st /\ (gD a_2.l i).fl = (gD a.l i).fl) /\ (gD s a_2.k).st = (gD s a.k).st /\ (gD s a_2.k).lo = (gD s a.k).lo /\ (gD s a_2.k).hi = (gD s a.k).hi
 /\ GF /\ ∀ (i : Nat), i < (2 : Nat) -> Ay s a_2 i = bif O5 i then (gD s a.k).lo else (gD s a.k).hi) /\ Xv a_2 s a) /\ ∀ (a_2 : PtJ), Xv a_2 s a -> bif yO a_2 then (Q9 a_2 /\
 AAW a_2 s /\ bif J5 a_2 s then C9 a_2 /\ ∃ (a_4 : PtJ), ACC a_4 a_2 s /\ Rg a_4 s a_2 a else ∃ (a_4 : PtJ), O9 a_4 a_2 s /\ Rg a_4 s a_2 a) /\ zU s a_2 a /\ zU s a_2
 a else ∃ (a_4 : PtK), K2 a_4 a_2 s /\ Ws a_4 s /\ XR s a_4 < XR s a else (AA s).length = a.l.length /\ (0 : Nat) + a.l.length <= a.l.length /\ ∀ (j : Nat), j < (AA s).length -> (gD (AA s)
 j).st = (yX a j).st /\ (gD (AA s) j).fl = (yX a j).fl) := by kernel_rfl
theorem AMR (l : List Pt) (p : Pt) : (addP l p).length <= l.length + 1 := by unfold addP; split <;> simp
theorem AXD {s : List Gau} {k : Nat} (h : k < s.length) : LO s (k + 1) = addG (LO s k) (gD s k) := by
 unfold LO; rw [DF h, List.foldl_append]; rfl
theorem QW {s : List Gau} : ∀ k, k <= s.length -> (LO s k).length <= 2 * k
 | 0, _ => by simp [LO]
 | k + 1, h => by
  rw [AXD (by omega)]
  have := QW (s := s) k (by omega)
  have h1 := AMR (LO s k) ⟨(gD s k).st, (gD s k).lo⟩
  have h2 := AMR (addP (LO s k) ⟨(gD s k).st, (gD s k).lo⟩) ⟨(gD s k).st, (gD s k).hi⟩
  unfold addG; omega
theorem BQJ {s : List Gau} {k j : Nat} (h : k < s.length) (hj : j < 2) : Jb s k (j + 1) = addP (Jb s k j) ⟨(gD s k).st, gD [(gD s k).lo, (gD s k).hi] j⟩ := by
 match j, hj with
 | 0, _ => rfl
 | 1, _ => exact AXD h
theorem BYQ {s : List Gau} {k j : Nat} (h : k < s.length) (hj : j <= 2) : (Jb s k j).length <= 2 * s.length := by
 match j, hj with
 | 0, _ => have := QW (s := s) k (by omega); show (LO s k).length <= _; omega
 | 1, _ =>
  have := QW (s := s) k (by omega)
  have h1 := AMR (LO s k) ⟨(gD s k).st, (gD s k).lo⟩
  show (addP _ _).length <= _; omega
 | 2, _ => have := QW (s := s) (k + 1) (by omega); show (LO s (k + 1)).length <= _; omega
theorem CMD {l : List Pt} {p : Pt} (h : p ∈ l) : addP l p = l := if_pos h
theorem CHS {l : List Pt} {p : Pt} (h : ¬ p ∈ l) : addP l p = l ++ [p] := if_neg h
theorem CQA (l : List Pt) (p : Pt) (i : Nat) (hi : i < (l ++ [p]).length) : ((gD (l ++ [p]) i).st = bif decide (i < l.length) then (gD l i).st else p.st) /\ (gD (l ++ [p]) i).fl = bif decide (i < l.length) then (gD l i).fl else p.fl := by
 rw [wG _ _ (by simpa using hi)]
 cases decide (i < l.length) <;> exact ⟨rfl, rfl⟩
theorem CTT (s : List Gau) (hn : s.length < 1073741824) : CBX s := by
 rw [CKG]; delta DK ARM PT PJ tT ASZ ARX GF SL Mz T9 QZ RR zV ADN O5 zJ z_ends_17 Ti Sx U7 AFH ACQ Ay Ss MQ Q4 H9 AAJ ABM ABG N4 Xj AEU J8 xV Sz P1 A3 Wr AEV yO G9 Q9 Vc XB AEL Bt F1 AER G0 AAW J5 Xk C9 yE ACX U9 ACC AFG Uf O9 V2 ADR P7 K2 Ws XR yM G5 U5 AEA Xv Rg zU yX; simp only [CC, eq_self, implies_true, forall_const]
 have cut : ∀ (q m : Nat) (c : PtJ), c.k < s.length /\ c.j < 2 /\ 2 - c.j <= m /\ s.length - c.k <= q /\ c.l = Jb s c.k (c.j + 1) -> ∃ b : PtJ, (b.l.length = c.l.length /\ (b.j : Int) = IntKind.i64.wrap ((c.j : Int) + 1) /\ (b.k : Int) = c.k /\ b.l.length = c.l.length /\ (∀ (i : Nat), i < b.l.length -> (gD b.l i).st = (gD c.l i).st /\ (gD b.l i).fl = (gD c.l i).fl) /\ (gD s b.k).st = (gD s c.k).st /\ (gD s b.k).lo = (gD s c.k).lo /\ (gD s b.k).hi = (gD s c.k).hi /\ ∀ (i : Nat), i < 2 -> gD [(gD s b.k).lo, (gD s b.k).hi] i = gD [(gD s c.k).lo, (gD s c.k).hi] i) /\ (b.k < s.length /\ b.j <= 2 /\ s.length - b.k <= q /\ b.l = Jb s b.k b.j) /\ 2 - b.j < m := λ q m c hc =>
  ⟨⟨c.k, c.j + 1, c.l⟩, ⟨rfl, (BF (by omega)).symm, rfl, rfl, λ _ _ => ⟨rfl, rfl⟩, rfl, rfl, rfl, λ _ _ => rfl⟩, ⟨hc.1, by show c.j + 1 <= 2; omega, hc.2.2.2.1, hc.2.2.2.2⟩, by show 2 - (c.j + 1) < m; omega⟩
 have go : ∀ (q : Nat) (b : PtJ), b.k < s.length /\ b.j <= 2 /\ s.length - b.k <= q /\ b.l = Jb s b.k b.j -> (b.j : Int) < 2 -> b.l.length < 4611686018427387904 /\ b.l.length < 9223372036854775807 /\ (b.l.length + 1) * 16 <= 140737488355328 /\ ∀ p : Pt, p = ⟨(gD s b.k).st, gD [(gD s b.k).lo, (gD s b.k).hi] b.j⟩ -> (¬ p ∈ b.l -> b.l ++ [p] = Jb s b.k (b.j + 1)) /\ (p ∈ b.l -> b.l = Jb s b.k (b.j + 1)) := λ q b hb hj => by
  have hl := BYQ hb.1 hb.2.1
  rw [<- hb.2.2.2] at hl
  refine ⟨by omega, by omega, by omega, λ p hp => ?_⟩
  rw [BQJ hb.1 (by omega), <- hb.2.2.2, <- hp]
  exact ⟨λ h => (CHS h).symm, λ h => (CMD h).symm⟩
 have two : ∀ (g : Gau) (i : Nat), i < 2 -> gD [g.lo, g.hi] i = bif decide (i = 0) then g.lo else g.hi := λ g i hi => by
  match i, hi with
  | 0, _ => rfl
  | 1, _ => rfl
 refine ⟨⟨default, trivial⟩, ⟨λ h0 => ⟨⟨by omega, by omega⟩, ⟨default, two _, by omega⟩, λ h1 => ⟨⟨⟨by omega, by omega⟩, by omega, by simp, ⟨⟨0, 0, [⟨(gD s 0).st, (gD s 0).lo⟩]⟩, ⟨rfl, rfl, rfl, rfl, λ i hi => ?_, rfl, rfl, rfl, λ _ _ => rfl⟩, h1, by simp, by simp, by simp, rfl⟩⟩, cut _ _⟩,
  λ b hb => ⟨λ hj => ⟨⟨⟨by omega, by omega⟩, (go _ b hb hj).1, λ hm => ⟨⟨by simp, by simp, (go _ b hb hj).2.1, (go _ b hb hj).2.2.1⟩, ⟨b.k, b.j, b.l ++ [_]⟩, ⟨by simp, rfl, rfl, by simp, CQA b.l _, rfl, rfl, rfl, λ _ _ => rfl⟩, hb.1, by show b.j < 2; omega, Nat.le_refl _, hb.2.2.1, ((go _ b hb hj).2.2.2 _ rfl).1 hm⟩, λ hm => ⟨⟨b.k, b.j, b.l⟩, ⟨rfl, rfl, rfl, rfl, λ _ _ => ⟨rfl, rfl⟩, rfl, rfl, rfl, λ _ _ => rfl⟩, hb.1, by show b.j < 2; omega, Nat.le_refl _, hb.2.2.1, ((go _ b hb hj).2.2.2 _ rfl).2 hm⟩⟩, cut _ _⟩, λ hj => ?_⟩⟩, λ h0 => ?_⟩,
  λ a ha => ⟨λ hk => ⟨⟨by omega, by omega⟩, ⟨⟨a.k, 0, a.l⟩, ⟨rfl, rfl, rfl, rfl, λ _ _ => ⟨rfl, rfl⟩, rfl, rfl, rfl, two _⟩, by show a.k < _; omega, by simp, Nat.le_refl _, ha.2.2⟩,
  λ b hb => ⟨λ hj => ⟨⟨⟨by omega, by omega⟩, (go _ b hb hj).1, λ hm => ⟨⟨by simp, by simp, (go _ b hb hj).2.1, (go _ b hb hj).2.2.1⟩, ⟨b.k, b.j, b.l ++ [_]⟩, ⟨by simp, rfl, rfl, by simp, CQA b.l _, rfl, rfl, rfl, λ _ _ => rfl⟩, hb.1, by show b.j < 2; omega, Nat.le_refl _, hb.2.2.1, ((go _ b hb hj).2.2.2 _ rfl).1 hm⟩, λ hm => ⟨⟨b.k, b.j, b.l⟩, ⟨rfl, rfl, rfl, rfl, λ _ _ => ⟨rfl, rfl⟩, rfl, rfl, rfl, λ _ _ => rfl⟩, hb.1, by show b.j < 2; omega, Nat.le_refl _, hb.2.2.1, ((go _ b hb hj).2.2.2 _ rfl).2 hm⟩⟩, cut _ _⟩, λ hj => ?_⟩⟩, λ hk => ?_⟩⟩
 ·have : i = 0 := by have hi : i < 1 := hi; omega
  subst this; exact ⟨rfl, rfl⟩
 ·have h2 : b.j = 2 := by omega
  exact ⟨⟨b.k + 1, b.l⟩, ⟨rfl, (BF (by omega)).symm, rfl, λ _ _ => ⟨rfl, rfl⟩⟩, ⟨by show b.k + 1 <= _; omega, Nat.succ_pos _, by rw [hb.2.2.2, h2]; rfl⟩, by show s.length - (b.k + 1) < _; omega⟩
 ·have : s = [] := List.eq_nil_of_length_eq_zero (by omega)
  subst this; rfl
 ·have h2 : b.j = 2 := by omega
  exact ⟨⟨b.k + 1, b.l⟩, ⟨rfl, (BF (by omega)).symm, rfl, λ _ _ => ⟨rfl, rfl⟩⟩, ⟨by show b.k + 1 <= _; omega, Nat.succ_pos _, by rw [hb.2.2.2, h2]; rfl⟩, by show s.length - (b.k + 1) < _; omega⟩
 ·have e : a.l = AA s := by rw [ha.2.2]; unfold LO AA; rw [List.take_of_length_le (by omega)]
  rw [<- e]
  exact ⟨rfl, Nat.le_refl _, λ _ _ => ⟨rfl, rfl⟩⟩
theorem qA : AG Try.prog BAD (C_ends.spec JM) := HR C_ends CEZ [] [301] CJY (λ _ => by kernel_rfl) (λ _ => AB (Ha CLP CJU) AD) (λ (s : List Gau) h => CTT s (show s.length < 1073741824 /\ True from h).1) (λ _ => IN rfl rfl) _
end Go.Bal
