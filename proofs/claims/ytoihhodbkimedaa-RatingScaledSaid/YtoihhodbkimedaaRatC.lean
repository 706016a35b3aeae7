/- Package rating: ends of spans. -/
import Derived.Test.YtoihhodbkimedaaRatB
set_option linter.unusedVariables false
set_option linter.unusedSimpArgs false
namespace Go.Bal
open Go Go.Sym Go.Proofs
structure PP where
 l : List Pt
 p : Pt
def oI (p q : Pt) : Bool := p.st == q.st && p.fl == q.fl
def dPP : List AVal -> Heap -> Option (PP × List (Nat × Nat) × List Nat)
 | [y, .d p], H => match dPts y H with
  | some (l, f) => some (⟨l, dPt p⟩, [], f)
  | none => none
 | _, _ => none
def xPP (a : PP) : List AVal := [.d (ePts a.l), .d (ePt a.p)]
def C_idxP : Ctr := { α := PP, xs := xPP, L := λ _ => [], val := λ a => .int (EY (λ i => oI a.p (gD a.l i)) a.l.length 0), keep := λ _ => [], pre := λ a => [a.l.length < 4611686018427387904 /\ True] }
def BXH (a : PP) : Ann := { ann 19 [] with loops := λ id => if id = 2 then some [{ α := Nat, dflt := 0, T := λ k => ⟨[(0, .d (ePts a.l)), (3, .bptr 201 0), (7, .int a.l.length), (8, .int k)], [(201, .live (.box [.int a.p.st, .int a.p.fl]))]⟩, inv := λ k => k <= a.l.length /\ EY (λ i => oI a.p (gD a.l i)) a.l.length 0 = EY (λ i => oI a.p (gD a.l i)) (a.l.length - k) k, meas := λ k => a.l.length - k, first := [(201, 1000)] }] else none }
def CAC (a : PP) : Prop := AY Try.prog (BXH a) AWX (AF AWX) (xPP a) (AC []) (C_idxP.val a) [] [] []
theorem CDU (a : PP) : (CAC a) = ((∃ (a_1 : Nat), (a.l.length = a.l.length /\ (∀ (i : Nat), i < a.l.length -> (gD a.l i).st = (gD a.l i).st /\ (gD a.l i).fl = (gD a.l i).fl) /\ (↑a.l.length : Int) = (↑a.l.length :
 Int) /\ (↑a_1 : Int) = 0 /\ a.p.st = a.p.st /\ a.p.fl = a.p.fl) /\ a_1 <= a.l.length /\ EY (λ (i : Nat) => oI a.p (gD a.l i)) a.l.length 0 = EY (λ (i : Nat) => oI a.p (gD a.l i)) (a.l.length - a_1) a_1) /\ ∀ (a_1 :
 Nat), a_1 <= a.l.length /\ EY (λ (i : Nat) => oI a.p (gD a.l i)) a.l.length 0 = EY (λ (i : Nat) => oI a.p (gD a.l i)) (a.l.length - a_1) a_1 -> bif decide ((↑a_1 : Int) < (↑a.l.length : Int)) then (0 <= (↑a_1 : Int)
 /\ (↑a_1 : Int) < (↑a.l.length : Int)) /\ bif a.p.st == (gD a.l a_1).st && (a.p.fl == (gD a.l a_1).fl && true) then EY (λ (i : Nat) => oI a.p (gD a.l i)) a.l.length 0 = (↑a_1 : Int) else ∃ (a_3 : Nat), (a.l.length =
 a.l.length /\ (∀ (i : Nat), i < a.l.length -> (gD a.l i).st = (gD a.l i).st /\ (gD a.l i).fl = (gD a.l i).fl) /\ (↑a.l.length : Int) = (↑a.l.length : Int) /\ (↑a_3 : Int) = IntKind.i64.wrap ((↑a_1 : Int) + 1) /\ a.p.st =
 a.p.st /\ a.p.fl = a.p.fl) /\ (a_3 <= a.l.length /\ EY (λ (i : Nat) => oI a.p (gD a.l i)) a.l.length 0 = EY (λ (i : Nat) => oI a.p (gD a.l i)) (a.l.length - a_3) a_3) /\ a.l.length - a_3 < a.l.length - a_1 else EY
 (λ (i : Nat) => oI a.p (gD a.l i)) a.l.length 0 = -1) := by kernel_rfl
def rowP (l : List Pt) : AObj := .row 2 l.length λ i => ePt (gD l i)
def xPo (a : PP) : List AVal := [.own 100 2 0 a.l.length, .d (ePt a.p)]
def dPo : List AVal -> Heap -> Option (PP × List (Nat × Nat) × List Nat)
 | [.own id _ _ n, .d p], H => match H id with
  | .live (.row _ _ g) => some (⟨AD n λ i => dPt (g i), dPt p⟩, [(100, id)], [])
  | _ => none
 | _, _ => none
def C_idxO : Ctr := { ro := [100], α := PP, xs := xPo, L := λ a => [(100, rowP a.l)], val := λ a => .int (EY (λ i => oI a.p (gD a.l i)) a.l.length 0), keep := λ a => [(100, .live (rowP a.l))], pre := λ a => [a.l.length < 4611686018427387904 /\ True] }
def BYO (a : PP) : Ann := { ann 19 [] with E := [100], loops := λ id => if id = 2 then some [{ α := Nat, dflt := 0, T := λ k => ⟨[(0, .own 100 2 0 a.l.length), (3, .bptr 201 0), (7, .int a.l.length), (8, .int k)], [(100, .live (rowP a.l)), (201, .live (.box [.int a.p.st, .int a.p.fl]))]⟩, inv := λ k => k <= a.l.length /\ EY (λ i => oI a.p (gD a.l i)) a.l.length 0 = EY (λ i => oI a.p (gD a.l i)) (a.l.length - k) k, meas := λ k => a.l.length - k, first := [(201, 1000)] }] else none }
def CBB (a : PP) : Prop := AY Try.prog (BYO a) AWX (AF AWX) (xPo a) (AC (C_idxO.L a)) (C_idxO.val a) (C_idxO.keep a) [] []
theorem CED (a : PP) : (CBB a) = ((∃ (a_1 : Nat), (0 = 0 /\ a.l.length = a.l.length /\ (↑a.l.length : Int) = (↑a.l.length : Int) /\ (↑a_1 : Int) = 0 /\ a.l.length = a.l.length /\ (∀ (i : Nat), i < a.l.length -> (gD a.l
 i).st = (gD a.l i).st /\ (gD a.l i).fl = (gD a.l i).fl) /\ a.p.st = a.p.st /\ a.p.fl = a.p.fl) /\ a_1 <= a.l.length /\ EY (λ (i : Nat) => oI a.p (gD a.l i)) a.l.length 0 = EY (λ (i : Nat) => oI a.p (gD a.l i))
 (a.l.length - a_1) a_1) /\ ∀ (a_1 : Nat), a_1 <= a.l.length /\ EY (λ (i : Nat) => oI a.p (gD a.l i)) a.l.length 0 = EY (λ (i : Nat) => oI a.p (gD a.l i)) (a.l.length - a_1) a_1 -> bif decide ((↑a_1 : Int) <
 (↑a.l.length : Int)) then ((0 <= (↑a_1 : Int) /\ (↑a_1 : Int) < (↑a.l.length : Int)) /\ (0 + a_1).succ.le a.l.length) /\ bif a.p.st == (gD a.l (0 + a_1)).st && (a.p.fl == (gD a.l (0 + a_1)).fl && true) then EY (λ (i :
 Nat) => oI a.p (gD a.l i)) a.l.length 0 = (↑a_1 : Int) /\ a.l.length = a.l.length /\ ∀ (i : Nat), i < a.l.length -> (gD a.l i).st = (gD a.l i).st /\ (gD a.l i).fl = (gD a.l i).fl else ∃ (a_3 : Nat), (0 = 0 /\ a.l.length =
 a.l.length /\ (↑a.l.length : Int) = (↑a.l.length : Int) /\ (↑a_3 : Int) = IntKind.i64.wrap ((↑a_1 : Int) + 1) /\ a.l.length = a.l.length /\ (∀ (i : Nat), i < a.l.length -> (gD a.l i).st = (gD a.l i).st /\ (gD a.l i).fl = (gD
 a.l i).fl) /\ a.p.st = a.p.st /\ a.p.fl = a.p.fl) /\ (a_3 <= a.l.length /\ EY (λ (i : Nat) => oI a.p (gD a.l i)) a.l.length 0 = EY (λ (i : Nat) => oI a.p (gD a.l i)) (a.l.length - a_3) a_3) /\ a.l.length - a_3 <
 a.l.length - a_1 else EY (λ (i : Nat) => oI a.p (gD a.l i)) a.l.length 0 = -1 /\ a.l.length = a.l.length /\ ∀ (i : Nat), i < a.l.length -> (gD a.l i).st = (gD a.l i).st /\ (gD a.l i).fl = (gD a.l i).fl) := by kernel_rfl
theorem CJC (p q : Pt) : (p.st == q.st && (p.fl == q.fl && true)) = oI p q := by unfold oI; rw [Bool.and_true]
theorem BZW {p : Nat -> Bool} {n : Nat} (h : n < 4611686018427387904) : (∃ a : Nat, (a : Int) = 0 /\ a <= n /\ EY p n 0 = EY p (n - a) a) /\ ∀ a : Nat, a <= n /\ EY p n 0 = EY p (n - a) a -> ((a : Int) < n -> (0 <= (a : Int) /\ (a : Int) < n) /\ (p a = true -> EY p n 0 = a) /\ (p a = false -> ∃ b : Nat, (b : Int) = IntKind.i64.wrap ((a : Int) + 1) /\ (b <= n /\ EY p n 0 = EY p (n - b) b) /\ n - b < n - a)) /\ (¬(a : Int) < n -> EY p n 0 = -1) := by
 refine ⟨⟨0, rfl, Nat.zero_le _, rfl⟩, λ a ⟨h1, h2⟩ => ⟨λ hlt => ?_, λ hge => ?_⟩⟩
 ·have hlt : a < n := by omega
  refine ⟨⟨by omega, by omega⟩, λ hp => ?_, λ hp => ⟨a + 1, (CA (by omega)).symm, ⟨by omega, ?_⟩, by omega⟩⟩
  ·rw [h2]; exact wR hlt hp
  ·rw [h2]; exact BCW hlt hp
 ·rw [h2]; exact AHE (by omega)
theorem CDI : AG Try.prog AYS (C_idxP.spec dPP) := JX C_idxP BXH [] [] BRR (λ _ => by kernel_rfl) (λ _ => AE) (λ (a : PP) h => by
 show CAC a; rw [CDU]; simp only [CC, eq_self, implies_true, forall_const, CJC]
 have h : a.l.length < 4611686018427387904 /\ True := h
 exact BZW h.1) (λ _ => KJ rfl rfl) _
theorem CFE : AG Try.prog AYS (C_idxO.spec dPo) := JX C_idxO BYO [] [] BRR (λ _ => by kernel_rfl) (λ _ => AE) (λ (a : PP) h => by
 show CBB a; rw [CED]; simp only [CC, eq_self, implies_true, forall_const, CJC]
 have h : a.l.length < 4611686018427387904 /\ True := h
 obtain ⟨e1, e2⟩ := BZW (p := λ i => oI a.p (gD a.l i)) h.1
 exact ⟨e1, λ k hk => ⟨λ hl => ⟨⟨((e2 k hk).1 hl).1, by omega⟩, ((e2 k hk).1 hl).2⟩, (e2 k hk).2⟩⟩) (λ _ => KJ rfl rfl) _
theorem BTG {a : PP} : decide (a.p ∈ a.l) = decide (EY (λ i => oI a.p (gD a.l i)) a.l.length 0 >= 0) := by
 rw [Bool.eq_iff_iff]
 simp only [decide_eq_true_eq, ge_iff_le, BNN, Nat.zero_le, Nat.zero_add, true_and]
 have e : ∀ q : Pt, oI a.p q = true ↔ a.p = q := λ q => by
  obtain ⟨⟨⟩, ⟨x, y⟩⟩ := a
  all_goals obtain ⟨z, w⟩ := q; simp [oI]
 constructor
 ·intro h
  obtain ⟨i, hi, hx⟩ := TD h
  exact ⟨i, hi, (e _).2 hx.symm⟩
 ·rintro ⟨i, hi, hx⟩
  rw [(e _).1 hx]; exact BZ hi
def C_conO : Ctr := { C_idxO with val := λ (a : PP) => .bool (decide (a.p ∈ a.l)) }
def BYX : Ann := { ann 9 [(AYS, C_idxO.spec dPo)] with E := [100] }
def BWV (a : PP) : Prop := AY Try.prog BYX ASE (AF ASE) (xPo a) (AC (C_conO.L a)) (C_conO.val a) (C_conO.keep a) [] []
theorem CHG (a : PP) : (BWV a) = ((0 = 0 /\ (AD a.l.length λ (i : Nat) => gD a.l i).length = a.l.length /\ a.p.st = a.p.st /\ a.p.fl = a.p.fl /\ (AD a.l.length λ (i : Nat) => gD a.l i).length = a.l.length /\ (∀
 (i : Nat), i < (AD a.l.length λ (i : Nat) => gD a.l i).length -> (gD (AD a.l.length λ (i : Nat) => gD a.l i) i).st = (gD a.l i).st /\ (gD (AD a.l.length λ (i : Nat) => gD a.l i) i).fl = (gD a.l i).fl) /\ a.l.length
 = (AD a.l.length λ (i : Nat) => gD a.l i).length /\ (∀ (i : Nat), i < a.l.length -> (gD a.l i).st = (gD (AD a.l.length λ (i : Nat) => gD a.l i) i).st /\ (gD a.l i).fl = (gD (AD a.l.length λ (i : Nat) => gD a.l i)
 i).fl) /\ (AD a.l.length λ (i : Nat) => gD a.l i).length < 4611686018427387904 /\ True) /\ decide (a.p ∈ a.l) = decide (EY (λ (i : Nat) => oI a.p (gD (AD a.l.length λ (i : Nat) => gD a.l i) i)) (AD a.l.length fun
 (i : Nat) => gD a.l i).length 0 >= 0) /\ a.l.length = a.l.length /\ ∀ (i : Nat), i < a.l.length -> (gD a.l i).st = (gD a.l i).st /\ (gD a.l i).fl = (gD a.l i).fl) := by kernel_rfl
def C_conP : Ctr := { C_idxP with val := λ (a : PP) => .bool (decide (a.p ∈ a.l)) }
def BYS : Ann := ann 9 [(AYS, C_idxP.spec dPP)]
def CCX (a : PP) : Prop := AY Try.prog BYS ASE (AF ASE) (xPP a) (AC []) (C_conP.val a) [] [] []
theorem CGO (a : PP) : (CCX a) = (((AD a.l.length λ (i : Nat) => gD a.l i).length = a.l.length /\ (∀ (i : Nat), i < (AD a.l.length λ (i : Nat) => gD a.l i).length -> (gD (AD a.l.length λ (i : Nat) => gD a.l
 i) i).st = (gD a.l i).st /\ (gD (AD a.l.length λ (i : Nat) => gD a.l i) i).fl = (gD a.l i).fl) /\ a.p.st = a.p.st /\ a.p.fl = a.p.fl /\ (AD a.l.length λ (i : Nat) => gD a.l i).length < 4611686018427387904 /\ True) /\
 decide (a.p ∈ a.l) = decide (EY (λ (i : Nat) => oI a.p (gD (AD a.l.length λ (i : Nat) => gD a.l i) i)) (AD a.l.length λ (i : Nat) => gD a.l i).length 0 >= 0)) := by kernel_rfl
theorem CEA : AG Try.prog BDP (C_conO.spec dPo) := Ctr.spec_ok (C := C_conO) (λ (a : PP) h => RD (A := BYX) (ren := []) (fz := []) BTB (by kernel_rfl) (AB CFE AE) (by
 show BWV a; rw [CHG]; simp only [CC, eq_self, implies_true, forall_const]
 have h : a.l.length < 4611686018427387904 /\ True := h
 exact ⟨h.1, BTG⟩)) _
theorem CEU : AG Try.prog BDP (C_conP.spec dPP) := Ctr.spec_ok (C := C_conP) (λ (a : PP) h => RD (A := BYS) (L := []) (keep := []) (ren := []) (fz := []) BTB (by kernel_rfl) (AB CDI AE) (by
 show CCX a; rw [CGO]; simp only [CC, eq_self, implies_true, forall_const]
 have h : a.l.length < 4611686018427387904 /\ True := h
 exact ⟨h.1, BTG⟩)) _
def addP (l : List Pt) (p : Pt) : List Pt := if p ∈ l then l else l ++ [p]
def addG (l : List Pt) (g : Gau) : List Pt := addP (addP l ⟨g.st, g.lo⟩) ⟨g.st, g.hi⟩
def AA (s : List Gau) : List Pt := s.foldl addG []
def LE (s : List Gau) (k : Nat) : List Pt := (s.take k).foldl addG []
def Hn (s : List Gau) (k j : Nat) : List Pt := if j = 0 then LE s k else if j = 1 then addP (LE s k) ⟨(gD s k).st, (gD s k).lo⟩ else LE s (k + 1)
structure PtK where
 k : Nat
 l : List Pt
 deriving Inhabited
structure PtJ where
 k : Nat
 j : Nat
 l : List Pt
 deriving Inhabited
def enS (s : List Gau) (k : Nat) : List (Nat × AVal) := [(9, .d (BO s)), (10, .int s.length), (11, .int k)]
def enI (s : List Gau) (k j : Nat) : List (Nat × AVal) := [(5, .bptr 302 0), (21, .own 303 1 0 2), (22, .int 2), (23, .int j)] ++ enS s k
def enH (g : Gau) : List (Nat × HCell) := [(302, .live (.box [.int g.st, .int g.lo, .int g.hi])), (303, .live (.row 1 2 λ i => CU (gD [g.lo, g.hi] i)))]
def enN (s : List Gau) : Shape := { α := One, dflt := default, T := λ _ => ⟨(3, .d PD) :: enS s 0, []⟩, inv := λ _ => True, meas := λ _ => s.length + 1, tag := [0] }
def enO (s : List Gau) : Shape := { α := PtK, dflt := default, T := λ x => ⟨(3, .own 301 2 0 x.l.length) :: enS s x.k, [(301, .live (rowP x.l))]⟩, inv := λ x => x.k <= s.length /\ 1 <= x.k /\ x.l = LE s x.k, meas := λ x => s.length - x.k, tag := [1] }
def enA (s : List Gau) : Shape := { α := One, dflt := default, T := λ _ => ⟨(3, .d PD) :: enI s 0 0, enH (gD s 0)⟩, inv := λ _ => 0 < s.length, meas := λ _ => 3, first := [(302, 5032), (303, 6096)] }
def enB (s : List Gau) (q : Nat) : Shape := { α := PtJ, dflt := default, T := λ x => ⟨(3, .own 301 2 0 x.l.length) :: enI s x.k x.j, (301, .live (rowP x.l)) :: enH (gD s x.k)⟩, inv := λ x => x.k < s.length /\ x.j <= 2 /\ s.length - x.k <= q /\ x.l = Hn s x.k x.j, meas := λ x => 2 - x.j, first := [(302, 5032), (303, 6096)] }
def enC (s : List Gau) (m q : Nat) (f : List (Nat × Nat)) : Shape := { α := PtJ, dflt := default, T := λ x => ⟨(3, .own 301 2 0 x.l.length) :: enI s x.k x.j, (301, .live (rowP x.l)) :: enH (gD s x.k)⟩, inv := λ x => x.k < s.length /\ x.j < 2 /\ 2 - x.j <= m /\ s.length - x.k <= q /\ x.l = Hn s x.k (x.j + 1), meas := λ _ => 0, first := f }
def C_ends : Ctr := { α := List Gau, xs := λ l => [.d (BO l)], L := λ _ => [], val := λ l => .d (ePts (AA l)), keep := λ _ => [], pre := λ l => [l.length < 1073741824 /\ True] }
def BZG (s : List Gau) : Ann := { ann 42 [(BDP, orS (C_conO.spec dPo) (C_conP.spec dPP))] with mt := λ id => id == 10, loops := λ id => if id = 3 then some [enN s, enO s] else none, inner := λ gs id => if id = 6 then (if gs.getD 1 0 = 0 then some [enA s, enB s (gs.getD 0 0)] else some [enB s (gs.getD 0 0)]) else none, cutIn := λ gs id => if id = 11 then some [enC s (gs.getD 0 0) (gs.getD 1 0) [(301, 11048)], enC s (gs.getD 0 0) (gs.getD 1 0) []] else none }
def CAH (s : List Gau) : Prop := AY Try.prog (BZG s) BMW (AF BMW) (C_ends.xs s) (AC []) (C_ends.val s) [] [] [301]
abbrev DI : Prop := (0 : Nat) = (0 : Nat)
abbrev AWW : Prop := ∀ (i : Nat), i < (0 : Nat) -> false = false
abbrev PI (s : List Gau) : Prop := ∀ (i : Nat), i < s.length -> (gD s i).st = (gD s i).st /\ (gD s i).lo = (gD s i).lo /\ (gD s i).hi = (gD s i).hi
abbrev PE (s : List Gau) : Prop := (↑s.length : Int) = (↑s.length : Int)
abbrev qT : Prop := Int.ofNat (0 : Nat) = Int.ofNat (0 : Nat)
abbrev ASO (s : List Gau) : Prop := (↑(0 : Nat) : Int) < (↑s.length : Int)
abbrev AUD : Prop := (0 : Int) <= (↑(0 : Nat) : Int)
abbrev FZ : Prop := (2 : Nat) = (2 : Nat)
abbrev RP : Prop := Int.ofNat (2 : Nat) = Int.ofNat (2 : Nat)
abbrev Mu (s : List Gau) : Int := (gD s (0 : Nat)).st
abbrev AEE (s : List Gau) : Prop := Mu s = Mu s
abbrev RG (s : List Gau) : Int := (gD s (0 : Nat)).lo
abbrev QL (s : List Gau) : Int := (gD s (0 : Nat)).hi
abbrev ACN (s : List Gau) : List Int := [RG s, QL s]
abbrev N3 (s : List Gau) (i : Nat) : Int := gD (ACN s) i
abbrev M4 (i : Nat) : Bool := decide (i = (0 : Nat))
abbrev F2 (s : List Gau) : Prop := (Nat.succ (0 : Nat)).le s.length
abbrev z_ends_17 : Nat := (0 : Nat) + (0 : Nat)
abbrev Ty (s : List Gau) : Int := gD (ACN s) z_ends_17
abbrev Tq : Prop := (0 : Nat) < (1 : Nat)
abbrev X9 : Prop := (1 : Nat) <= (1 : Nat) /\ (Tq -> FZ)
abbrev A7 (a : PtJ) : Prop := a.l.length = (1 : Nat)
abbrev L3 (s : List Gau) (a : PtJ) : List Int := [(gD s a.k).lo, (gD s a.k).hi]
abbrev WI (s : List Gau) (a : PtJ) (i : Nat) : Int := gD (L3 s a) i
abbrev Rs (a : PtJ) : Prop := a.j < (2 : Nat)
abbrev LY (a : PtJ) : Nat := (2 : Nat) - a.j
abbrev Q3 (s : List Gau) (a : PtJ) : Nat := s.length - a.k
abbrev zL (s : List Gau) : Nat := s.length + (1 : Nat)
abbrev AAT (s : List Gau) (a : PtJ) : Prop := Q3 s a <= zL s
abbrev R7 (a : PtJ) (s : List Gau) : Prop := a.l = Hn s a.k (a.j + (1 : Nat))
abbrev O2 (s : List Gau) (a : PtJ) : Prop := AAT s a /\ R7 a s
abbrev P0 (a : PtJ) (s : List Gau) : Prop := a.k < s.length /\ Rs a /\ LY a <= (3 : Nat) /\ O2 s a
abbrev Tv (a : PtJ) (a1 : PtJ) : Prop := a.l.length = a1.l.length
abbrev C1 (a : PtJ) (a1 : PtJ) : Prop := (↑a.k : Int) = (↑a1.k : Int)
abbrev F4 (s : List Gau) (a : PtJ) (a1 : PtJ) : Prop := (gD s a.k).st = (gD s a1.k).st /\ (gD s a.k).lo = (gD s a1.k).lo /\ (gD s a.k).hi = (gD s a1.k).hi /\ FZ /\ ∀ (i : Nat), i < (2 : Nat) -> WI s a i =
 WI s a1 i
abbrev X0 (s : List Gau) (a : PtJ) (a1 : PtJ) : Prop := s.length = s.length /\ PI s /\ PE s /\ C1 a a1 /\ Tv a a1 /\ (∀ (i : Nat), i < a.l.length -> (gD a.l i).st = (gD a1.l i).st /\ (gD a.l
 i).fl = (gD a1.l i).fl) /\ F4 s a a1
abbrev Re (a : PtJ) (a1 : PtJ) (s : List Gau) : Prop := DI /\ Tv a a1 /\ DI /\ FZ /\ RP /\ (↑a.j : Int) = IntKind.i64.wrap ((↑a1.j : Int) + (1 : Int)) /\ X0 s a a1
abbrev T9 (a : PtJ) : Prop := a.j <= (2 : Nat)
abbrev I6 (a : PtJ) (s : List Gau) : Prop := a.l = Hn s a.k a.j
abbrev Pi (a : PtJ) (s : List Gau) : Prop := a.k < s.length /\ T9 a /\ AAT s a /\ I6 a s
abbrev ABC (s : List Gau) : Prop := ∀ (a : PtJ), P0 a s -> ∃ (a_2 : PtJ), Re a_2 a s /\ Pi a_2 s /\ LY a_2 < (3 : Nat)
abbrev Y4 (a : PtJ) : Bool := decide ((↑a.j : Int) < (2 : Int))
abbrev ADK (a : PtJ) : Nat := (0 : Nat) + a.j
abbrev ACY (a : PtJ) : Prop := ((0 : Int) <= (↑a.j : Int) /\ (↑a.j : Int) < (↑(2 : Nat) : Int)) /\ (ADK a).succ.le (2 : Nat)
abbrev Pr (a : PtJ) : List Pt := AD a.l.length λ (i : Nat) => gD a.l i
abbrev XW (a : PtJ) : Nat := (Pr a).length
abbrev S0 (a : PtJ) : Prop := XW a = a.l.length
abbrev YN (s : List Gau) (a : PtJ) : Int := gD (L3 s a) (ADK a)
abbrev Z7 (a : PtJ) (i : Nat) : Pt := gD (Pr a) i
abbrev yR (a : PtJ) (i : Nat) : Int := (Z7 a i).st
abbrev ACU (a : PtJ) (i : Nat) : Int := (Z7 a i).fl
abbrev S9 (a : PtJ) (s : List Gau) : Prop := DI /\ S0 a /\ (gD s a.k).st = (gD s a.k).st /\ YN s a = YN s a /\ S0 a /\ (∀ (i : Nat), i < XW a -> yR a i = (gD a.l i).st /\
 ACU a i = (gD a.l i).fl) /\ a.l.length = XW a /\ (∀ (i : Nat), i < a.l.length -> (gD a.l i).st = yR a i /\ (gD a.l i).fl = ACU a i) /\ XW a < (4611686018427387904 : Nat) /\ True
abbrev F5 (a : PtJ) (s : List Gau) : Bool := !decide (Pt.mk (gD s a.k).st (YN s a) ∈ Pr a)
abbrev Sr (a : PtJ) : Nat := a.l.length + (1 : Nat)
abbrev ABM (a : PtJ) : Prop := (a.l.length = a.l.length /\ ((0 : Nat) < a.l.length -> FZ)) /\ X9 /\ (false = true -> Tq) /\ Sr a <= (9223372036854775807 : Nat) /\ Sr a * (16 : Nat) <=
 (140737488355328 : Nat)
abbrev ACR (a : PtJ) (a1 : PtJ) : Prop := a.l.length = Sr a1
abbrev J6 (a : PtJ) (a1 : PtJ) : Prop := (↑a.j : Int) = (↑a1.j : Int)
abbrev Y6 (i : Nat) (a : PtJ) : Bool := decide (i < a.l.length)
abbrev ADJ (a : PtJ) (a1 : PtJ) (s : List Gau) : Prop := DI /\ ACR a a1 /\ DI /\ FZ /\ RP /\ J6 a a1 /\ s.length = s.length /\ PI s /\ PE s /\ C1 a a1 /\ ACR a a1
 /\ (∀ (i : Nat), i < a.l.length -> ((gD a.l i).st = bif Y6 i a1 then (gD a1.l i).st else (gD s a1.k).st) /\ (gD a.l i).fl = bif Y6 i a1 then (gD a1.l i).fl else YN s a1) /\ F4 s a a1
abbrev N9 (a : PtJ) (a1 : PtJ) : Prop := LY a <= LY a1
abbrev Sb (a : PtJ) (s : List Gau) (a1 : PtJ) : Prop := a.k < s.length /\ Rs a /\ N9 a a1 /\ O2 s a
abbrev ABE (a : PtJ) (a1 : PtJ) (s : List Gau) : Prop := DI /\ Tv a a1 /\ DI /\ FZ /\ RP /\ J6 a a1 /\ X0 s a a1
abbrev AAL (a : PtJ) (a1 : PtJ) : Prop := LY a < LY a1
abbrev V0 (s : List Gau) (a : PtJ) : Prop := ∀ (a_1 : PtJ), Sb a_1 s a -> ∃ (a_3 : PtJ), Re a_3 a_1 s /\ Pi a_3 s /\ AAL a_3 a
abbrev F0 (a : PtK) (a1 : PtJ) : Prop := a.l.length = a1.l.length
abbrev ABL (a : PtK) (a1 : PtJ) (s : List Gau) : Prop := DI /\ F0 a a1 /\ s.length = s.length /\ PI s /\ PE s /\ (↑a.k : Int) = IntKind.i64.wrap ((↑a1.k : Int) + (1 : Int)) /\ F0 a a1 /\ ∀
 (i : Nat), i < a.l.length -> (gD a.l i).st = (gD a1.l i).st /\ (gD a.l i).fl = (gD a1.l i).fl
abbrev Tt (a : PtK) (s : List Gau) : Prop := a.k <= s.length /\ (1 : Nat) <= a.k /\ a.l = LE s a.k
abbrev XV (s : List Gau) (a : PtK) : Nat := s.length - a.k
abbrev R5 (s : List Gau) : Prop := (AA s).length = (0 : Nat)
abbrev zA (a : PtK) (s : List Gau) : Prop := (↑a.k : Int) < (↑s.length : Int)
abbrev C5 (a : PtJ) (a1 : PtK) : Prop := a.l.length = a1.l.length
abbrev M1 (s : List Gau) (a : PtJ) (a1 : PtK) : Prop := Q3 s a <= XV s a1
abbrev Ox (a : PtJ) (s : List Gau) (a1 : PtK) : Prop := a.k < s.length /\ T9 a /\ M1 s a a1 /\ I6 a s
abbrev Qr (a : PtJ) (s : List Gau) (a1 : PtJ) (a2 : PtK) : Prop := a.k < s.length /\ Rs a /\ N9 a a1 /\ M1 s a a2 /\ R7 a s
abbrev C4 (s : List Gau) (a : PtJ) (a1 : PtK) : Prop := ∀ (a_1 : PtJ), Qr a_1 s a a1 -> ∃ (a_3 : PtJ), Re a_3 a_1 s /\ Ox a_3 s a1 /\ AAL a_3 a
abbrev S3 (a : PtK) (j : Nat) : Pt := gD a.l ((0 : Nat) + j)
theorem CEQ (s : List Gau) : (CAH s) = ((∃ (a : One), (DI /\ AWW /\ s.length = s.length /\ PI s /\ PE s /\ qT) /\ True) /\ (∀ (a : One), True -> bif decide (ASO s) then (AUD /\
 ASO s) /\ (∃ (a : One), (DI /\ AWW /\ DI /\ FZ /\ RP /\ qT /\ s.length = s.length /\ PI s /\ PE s /\ qT /\ AEE s /\ RG s = RG s /\ QL s = QL
 s /\ FZ /\ ∀ (i : Nat), i < (2 : Nat) -> N3 s i = bif M4 i then RG s else QL s) /\ F2 s) /\ (∀ (a : One), F2 s -> (((AUD /\ (↑(0 : Nat) : Int) < (↑(2 : Nat) : Int)) /\
 z_ends_17.succ.le (2 : Nat)) /\ (DI /\ DI /\ AEE s /\ Ty s = Ty s /\ (0 : Nat) < (4611686018427387904 : Nat) /\ True) /\ ((True /\ ((0 : Nat) < (0 : Nat) -> (0 : Nat) = (2 : Nat))) /\ X9 /\
 (true = true -> Tq) /\ (1 : Nat) <= (9223372036854775807 : Nat) /\ (16 : Nat) <= (140737488355328 : Nat)) /\ ∃ (a : PtJ), (DI /\ A7 a /\ DI /\ FZ /\ RP /\ (↑a.j : Int) = (↑(0 : Nat) : Int) /\
 s.length = s.length /\ PI s /\ PE s /\ (↑a.k : Int) = (↑(0 : Nat) : Int) /\ A7 a /\ (∀ (i : Nat), i < a.l.length -> (gD a.l i).st = Mu s /\ (gD a.l i).fl = Ty s) /\ (gD s a.k).st = Mu s /\
 (gD s a.k).lo = RG s /\ (gD s a.k).hi = QL s /\ FZ /\ ∀ (i : Nat), i < (2 : Nat) -> WI s a i = N3 s i) /\ P0 a s) /\ ABC s /\ ABC s) /\ ∀ (a : PtJ), Pi a s -> bif
 Y4 a then (ACY a /\ S9 a s /\ bif F5 a s then ABM a /\ ∃ (a_2 : PtJ), ADJ a_2 a s /\ Sb a_2 s a else ∃ (a_2 : PtJ), ABE a_2 a s /\ Sb a_2 s a) /\ V0 s a /\
 V0 s a else ∃ (a_2 : PtK), ABL a_2 a s /\ Tt a_2 s /\ XV s a_2 < zL s else R5 s /\ R5 s) /\ ∀ (a : PtK), Tt a s -> bif decide (zA a s) then ((0 : Int) <= (↑a.k :
 Int) /\ zA a s) /\ (∃ (a_2 : PtJ), (DI /\ C5 a_2 a /\ DI /\ FZ /\ RP /\ (↑a_2.j : Int) = (0 : Int) /\ s.length = s.length /\ PI s /\ PE s /\ (↑a_2.k : Int) = (↑a.k : Int) /\
 C5 a_2 a /\ (∀ (i : Nat), i < a_2.l.length -> (gD a_2.l i).st = (gD a.l i).st /\ (gD a_2.l i).fl = (gD a.l i).fl) /\ (gD s a_2.k).st = (gD s a.k).st /\ (gD s a_2.k).lo = (gD s a.k).lo /\ (gD s a_2.k).hi = (gD s a.k).hi
 /\ FZ /\ ∀ (i : Nat), i < (2 : Nat) -> WI s a_2 i = bif M4 i then (gD s a.k).lo else (gD s a.k).hi) /\ Ox a_2 s a) /\ ∀ (a_2 : PtJ), Ox a_2 s a -> bif Y4 a_2 then (ACY a_2 /\
 S9 a_2 s /\ bif F5 a_2 s then ABM a_2 /\ ∃ (a_4 : PtJ), ADJ a_4 a_2 s /\ Qr a_4 s a_2 a else ∃ (a_4 : PtJ), ABE a_4 a_2 s /\ Qr a_4 s a_2 a) /\ C4 s a_2 a /\ C4 s a_2
 a else ∃ (a_4 : PtK), ABL a_4 a_2 s /\ Tt a_4 s /\ XV s a_4 < XV s a else (AA s).length = a.l.length /\ (0 : Nat) + a.l.length <= a.l.length /\ ∀ (j : Nat), j < (AA s).length -> (gD (AA s)
 j).st = (S3 a j).st /\ (gD (AA s) j).fl = (S3 a j).fl) := by kernel_rfl
theorem AJE (l : List Pt) (p : Pt) : (addP l p).length <= l.length + 1 := by unfold addP; split <;> simp
theorem AYP {s : List Gau} {k : Nat} (h : k < s.length) : LE s (k + 1) = addG (LE s k) (gD s k) := by
 unfold LE; rw [EZ h, List.foldl_append]; rfl
theorem QR {s : List Gau} : ∀ k, k <= s.length -> (LE s k).length <= 2 * k
 | 0, _ => by simp [LE]
 | k + 1, h => by
  rw [AYP (by omega)]
  have := QR (s := s) k (by omega)
  have h1 := AJE (LE s k) ⟨(gD s k).st, (gD s k).lo⟩
  have h2 := AJE (addP (LE s k) ⟨(gD s k).st, (gD s k).lo⟩) ⟨(gD s k).st, (gD s k).hi⟩
  unfold addG; omega
theorem BOI {s : List Gau} {k j : Nat} (h : k < s.length) (hj : j < 2) : Hn s k (j + 1) = addP (Hn s k j) ⟨(gD s k).st, gD [(gD s k).lo, (gD s k).hi] j⟩ := by
 match j, hj with
 | 0, _ => rfl
 | 1, _ => exact AYP h
theorem BUB {s : List Gau} {k j : Nat} (h : k < s.length) (hj : j <= 2) : (Hn s k j).length <= 2 * s.length := by
 match j, hj with
 | 0, _ => have := QR (s := s) k (by omega); show (LE s k).length <= _; omega
 | 1, _ =>
  have := QR (s := s) k (by omega)
  have h1 := AJE (LE s k) ⟨(gD s k).st, (gD s k).lo⟩
  show (addP _ _).length <= _; omega
 | 2, _ => have := QR (s := s) (k + 1) (by omega); show (LE s (k + 1)).length <= _; omega
theorem CFN {l : List Pt} {p : Pt} (h : p ∈ l) : addP l p = l := if_pos h
theorem BXJ {l : List Pt} {p : Pt} (h : ¬ p ∈ l) : addP l p = l ++ [p] := if_neg h
theorem CJG (l : List Pt) (p : Pt) (i : Nat) (hi : i < (l ++ [p]).length) : ((gD (l ++ [p]) i).st = bif decide (i < l.length) then (gD l i).st else p.st) /\ (gD (l ++ [p]) i).fl = bif decide (i < l.length) then (gD l i).fl else p.fl := by
 rw [wM _ _ (by simpa using hi)]
 cases decide (i < l.length) <;> exact ⟨rfl, rfl⟩
theorem CMW (s : List Gau) (hn : s.length < 1073741824) : CAH s := by
 rw [CEQ]; delta DI AWW PI PE qT ASO AUD FZ RP Mu AEE RG QL ACN N3 M4 F2 z_ends_17 Ty Tq X9 A7 L3 WI Rs LY Q3 zL AAT R7 O2 P0 Tv C1 F4 X0 Re T9 I6 Pi ABC Y4 ADK ACY Pr XW S0 YN Z7 yR ACU S9 F5 Sr ABM ACR J6 Y6 ADJ N9 Sb ABE AAL V0 F0 ABL Tt XV R5 zA C5 M1 Ox Qr C4 S3; simp only [CC, eq_self, implies_true, forall_const]
 have cut : ∀ (q m : Nat) (c : PtJ), c.k < s.length /\ c.j < 2 /\ 2 - c.j <= m /\ s.length - c.k <= q /\ c.l = Hn s c.k (c.j + 1) -> ∃ b : PtJ, (b.l.length = c.l.length /\ (b.j : Int) = IntKind.i64.wrap ((c.j : Int) + 1) /\ (b.k : Int) = c.k /\ b.l.length = c.l.length /\ (∀ (i : Nat), i < b.l.length -> (gD b.l i).st = (gD c.l i).st /\ (gD b.l i).fl = (gD c.l i).fl) /\ (gD s b.k).st = (gD s c.k).st /\ (gD s b.k).lo = (gD s c.k).lo /\ (gD s b.k).hi = (gD s c.k).hi /\ ∀ (i : Nat), i < 2 -> gD [(gD s b.k).lo, (gD s b.k).hi] i = gD [(gD s c.k).lo, (gD s c.k).hi] i) /\ (b.k < s.length /\ b.j <= 2 /\ s.length - b.k <= q /\ b.l = Hn s b.k b.j) /\ 2 - b.j < m := λ q m c hc =>
  ⟨⟨c.k, c.j + 1, c.l⟩, ⟨rfl, (CA (by omega)).symm, rfl, rfl, λ _ _ => ⟨rfl, rfl⟩, rfl, rfl, rfl, λ _ _ => rfl⟩, ⟨hc.1, by show c.j + 1 <= 2; omega, hc.2.2.2.1, hc.2.2.2.2⟩, by show 2 - (c.j + 1) < m; omega⟩
 have go : ∀ (q : Nat) (b : PtJ), b.k < s.length /\ b.j <= 2 /\ s.length - b.k <= q /\ b.l = Hn s b.k b.j -> (b.j : Int) < 2 -> b.l.length < 4611686018427387904 /\ b.l.length < 9223372036854775807 /\ (b.l.length + 1) * 16 <= 140737488355328 /\ ∀ p : Pt, p = ⟨(gD s b.k).st, gD [(gD s b.k).lo, (gD s b.k).hi] b.j⟩ -> (¬ p ∈ b.l -> b.l ++ [p] = Hn s b.k (b.j + 1)) /\ (p ∈ b.l -> b.l = Hn s b.k (b.j + 1)) := λ q b hb hj => by
  have hl := BUB hb.1 hb.2.1
  rw [<- hb.2.2.2] at hl
  refine ⟨by omega, by omega, by omega, λ p hp => ?_⟩
  rw [BOI hb.1 (by omega), <- hb.2.2.2, <- hp]
  exact ⟨λ h => (BXJ h).symm, λ h => (CFN h).symm⟩
 have two : ∀ (g : Gau) (i : Nat), i < 2 -> gD [g.lo, g.hi] i = bif decide (i = 0) then g.lo else g.hi := λ g i hi => by
  match i, hi with
  | 0, _ => rfl
  | 1, _ => rfl
 refine ⟨⟨default, trivial⟩, ⟨λ h0 => ⟨⟨by omega, by omega⟩, ⟨default, two _, by omega⟩, λ h1 => ⟨⟨⟨by omega, by omega⟩, by omega, by simp, ⟨⟨0, 0, [⟨(gD s 0).st, (gD s 0).lo⟩]⟩, ⟨rfl, rfl, rfl, rfl, λ i hi => ?_, rfl, rfl, rfl, λ _ _ => rfl⟩, h1, by simp, by simp, by simp, rfl⟩⟩, cut _ _⟩,
  λ b hb => ⟨λ hj => ⟨⟨⟨by omega, by omega⟩, (go _ b hb hj).1, λ hm => ⟨⟨by simp, by simp, (go _ b hb hj).2.1, (go _ b hb hj).2.2.1⟩, ⟨b.k, b.j, b.l ++ [_]⟩, ⟨by simp, rfl, rfl, by simp, CJG b.l _, rfl, rfl, rfl, λ _ _ => rfl⟩, hb.1, by show b.j < 2; omega, Nat.le_refl _, hb.2.2.1, ((go _ b hb hj).2.2.2 _ rfl).1 hm⟩, λ hm => ⟨⟨b.k, b.j, b.l⟩, ⟨rfl, rfl, rfl, rfl, λ _ _ => ⟨rfl, rfl⟩, rfl, rfl, rfl, λ _ _ => rfl⟩, hb.1, by show b.j < 2; omega, Nat.le_refl _, hb.2.2.1, ((go _ b hb hj).2.2.2 _ rfl).2 hm⟩⟩, cut _ _⟩, λ hj => ?_⟩⟩, λ h0 => ?_⟩,
  λ a ha => ⟨λ hk => ⟨⟨by omega, by omega⟩, ⟨⟨a.k, 0, a.l⟩, ⟨rfl, rfl, rfl, rfl, λ _ _ => ⟨rfl, rfl⟩, rfl, rfl, rfl, two _⟩, by show a.k < _; omega, by simp, Nat.le_refl _, ha.2.2⟩,
  λ b hb => ⟨λ hj => ⟨⟨⟨by omega, by omega⟩, (go _ b hb hj).1, λ hm => ⟨⟨by simp, by simp, (go _ b hb hj).2.1, (go _ b hb hj).2.2.1⟩, ⟨b.k, b.j, b.l ++ [_]⟩, ⟨by simp, rfl, rfl, by simp, CJG b.l _, rfl, rfl, rfl, λ _ _ => rfl⟩, hb.1, by show b.j < 2; omega, Nat.le_refl _, hb.2.2.1, ((go _ b hb hj).2.2.2 _ rfl).1 hm⟩, λ hm => ⟨⟨b.k, b.j, b.l⟩, ⟨rfl, rfl, rfl, rfl, λ _ _ => ⟨rfl, rfl⟩, rfl, rfl, rfl, λ _ _ => rfl⟩, hb.1, by show b.j < 2; omega, Nat.le_refl _, hb.2.2.1, ((go _ b hb hj).2.2.2 _ rfl).2 hm⟩⟩, cut _ _⟩, λ hj => ?_⟩⟩, λ hk => ?_⟩⟩
 ·have : i = 0 := by have hi : i < 1 := hi; omega
  subst this; exact ⟨rfl, rfl⟩
 ·have h2 : b.j = 2 := by omega
  exact ⟨⟨b.k + 1, b.l⟩, ⟨rfl, (CA (by omega)).symm, rfl, λ _ _ => ⟨rfl, rfl⟩⟩, ⟨by show b.k + 1 <= _; omega, Nat.succ_pos _, by rw [hb.2.2.2, h2]; rfl⟩, by show s.length - (b.k + 1) < _; omega⟩
 ·have : s = [] := List.eq_nil_of_length_eq_zero (by omega)
  subst this; rfl
 ·have h2 : b.j = 2 := by omega
  exact ⟨⟨b.k + 1, b.l⟩, ⟨rfl, (CA (by omega)).symm, rfl, λ _ _ => ⟨rfl, rfl⟩⟩, ⟨by show b.k + 1 <= _; omega, Nat.succ_pos _, by rw [hb.2.2.2, h2]; rfl⟩, by show s.length - (b.k + 1) < _; omega⟩
 ·have e : a.l = AA s := by rw [ha.2.2]; unfold LE AA; rw [List.take_of_length_le (by omega)]
  rw [<- e]
  exact ⟨rfl, Nat.le_refl _, λ _ _ => ⟨rfl, rfl⟩⟩
theorem tA : AG Try.prog ASL (C_ends.spec UV) := JX C_ends BZG [] [301] CGT (λ _ => by kernel_rfl) (λ _ => AB (Y1 CEA CEU) AE) (λ (s : List Gau) h => CMW s (show s.length < 1073741824 /\ True from h).1) (λ _ => KJ rfl rfl) _
end Go.Bal
