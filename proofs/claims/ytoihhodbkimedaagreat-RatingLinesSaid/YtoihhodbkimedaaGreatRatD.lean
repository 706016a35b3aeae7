/- Package rating: a line that passes. -/
import Derived.Test.YtoihhodbkimedaaGreatRatC
set_option linter.unusedVariables false
set_option linter.unusedSimpArgs false
namespace Go.Bal
open Go Go.Sym Go.Proofs
def dGsK : List AVal -> Heap -> Option (List Gau × List (Nat × Nat) × List Nat) := JW
def C_through : Ctr := { α := List Gau, xs := λ s => [.d (BE s)], L := λ _ => [], val := λ s => .fn (.func GT) [] [.bptr 0 0], keep := λ s => [(0, .live (.box [.d (BE s)]))] }
def AKL (s : List Gau) : Prop := AO Try.prog (ann 4 []) pQ (AF pQ) (C_through.xs s) (AC []) (C_through.val s) (C_through.keep s) [(0, 1000)] []
theorem AYP (s : List Gau) : (AKL s) = (s.length = s.length /\ ∀ (i : Nat), i < s.length -> (gD s i).st = (gD s i).st /\ (gD s i).lo = (gD s i).lo /\ (gD s i).hi = (gD s i).hi) := by kernel_rfl
theorem dE : AG Try.prog La (C_through.spec dGsK) := GD C_through (λ _ => ann 4 []) [(0, 1000)] [] AXD (λ _ => by kernel_rfl) (λ _ => AE) (λ (s : List Gau) _ => by
 show AKL s; rw [AYP]; simp) (λ _ => GJ rfl rfl) _
structure GsL where
 s : List Gau
 x : Ln
def dGsL : List AVal -> Heap -> Option (GsL × List (Nat × Nat) × List Nat)
 | [y, .d x], H => match kX y H with
  | some (l, f) => some (⟨l, dLn x⟩, [], f)
  | none => none
 | _, _ => none
def C_passing : Ctr := { α := GsL, xs := λ a => [.d (BE a.s), .d (eLn a.x)], L := λ _ => [], val := λ a => .bool (a.s.all λ g => BF a.x g), keep := λ _ => [], pre := λ a => [a.s.length < 4611686018427387904 /\ (∀ g ∈ a.s, (HY a.x /\ Dd g))] }
def AKH : Ann := ann 9 [(n_eG, C4Gp.spec d4Gp)]
def AKP (a : GsL) : Prop := AO Try.prog AKH tS (AF tS) (C_passing.xs a) (AC []) (C_passing.val a) [] [] []
theorem AVJ (a : GsL) : (AKP a) = (((AD a.s.length λ (i : Nat) => gD a.s i).length = a.s.length /\ (∀ (i : Nat), i < (AD a.s.length λ (i : Nat) => gD a.s i).length -> (gD (AD a.s.length λ (i : Nat) =>
 gD a.s i) i).st = (gD a.s i).st /\ (gD (AD a.s.length λ (i : Nat) => gD a.s i) i).lo = (gD a.s i).lo /\ (gD (AD a.s.length λ (i : Nat) => gD a.s i) i).hi = (gD a.s i).hi) /\ a.x.a0 = a.x.a0 /\ a.x.a1 = a.x.a1 /\ a.x.b0
 = a.x.b0 /\ a.x.b1 = a.x.b1 /\ (AD a.s.length λ (i : Nat) => gD a.s i).length < 4611686018427387904 /\ ∀ (x : Gau), List.Mem x (AD a.s.length λ (i : Nat) => gD a.s i) -> (0 <= a.x.a0 /\ a.x.a0 < a.x.b0 /\ a.x.b0 <= 2000 /\
 0 <= a.x.a1 /\ a.x.a1 <= a.x.b1 /\ a.x.b1 <= 200000) /\ 0 <= x.st /\ x.st <= 2000 /\ 0 <= x.lo /\ x.lo <= x.hi /\ x.hi <= 200000) /\ (a.s.all λ (g : Gau) => BF a.x g) = (AD a.s.length λ (i : Nat) => gD a.s i).all λ (x : Gau)
 => BF a.x x) := by kernel_rfl
theorem Sm : AG Try.prog UL (C_passing.spec dGsL) := GD C_passing (λ _ => AKH) [] [] AWJ (λ _ => by kernel_rfl) (λ _ => AB BXL AE) (λ (a : GsL) h => by
 show AKP a; rw [AVJ]; simp only [CC, eq_self, implies_true, forall_const]
 have h : a.s.length < 4611686018427387904 /\ (∀ g ∈ a.s, (HY a.x /\ Dd g)) := h
 first | exact h | exact ⟨h, rfl⟩) (λ _ => GJ rfl rfl) _
def J2 (a b : Pt) : Ln := ⟨a.st, a.fl, b.st, b.fl⟩
def blk (e : List Pt) (a : Pt) : List Ln := AM a :: (e.map (J2 a)).filter FT
def Ec (s : List Gau) : List Ln := (AA s).flatMap (blk (AA s))
def JF (s : List Gau) (x : Ln) : Bool := s.all λ g => BF x g
def BL (s : List Gau) : Ln × Bool := if s.length = 0 then (AM ⟨0, 0⟩, true) else match (Ec s).find? (JF s) with
 | some x => (x, true)
 | none => (default, false)
def zLn : HCell := .live (.box [.int 0, .int 0, .int 0, .int 0])
def lnH (s : List Gau) : List (Nat × HCell) := [(1000, zLn), (2000, zLn), (3000, .live (.box [.bool false])), (4032, .live (.box [.fn (.func UL) [.d (BE s)] []]))]
def lnS (s : List Gau) (l i : Nat) : List (Nat × AVal) := [(0, .fn (.yield l) [] []), (3, .d (ePts (AA s))), (11, .d (ePts (AA s))), (12, .int (AA s).length), (13, .int i)]
def NG (s : List Gau) (i : Nat) : List Ln := ((AA s).take i).flatMap (blk (AA s))
def DZ (s : List Gau) (i j : Nat) : List Ln := NG s i ++ AM (gD (AA s) i) :: (((AA s).take j).map (J2 (gD (AA s) i))).filter FT
def lnO (s : List Gau) (l : Nat) : Shape := { α := Nat, dflt := 0, T := λ i => ⟨lnS s l i, lnH s⟩, inv := λ i => i <= (AA s).length /\ ∀ x ∈ NG s i, JF s x = false, meas := λ i => (AA s).length - i }
def lnI (s : List Gau) (q l : Nat) : Shape := { α := IJ, dflt := default, T := λ x => ⟨[(5, .bptr 205 0), (22, .d (ePts (AA s))), (23, .int (AA s).length), (24, .int x.j)] ++ lnS s l x.i, (205, .live (.box [.int (gD (AA s) x.i).st, .int (gD (AA s) x.i).fl])) :: lnH s⟩, inv := λ x => x.i < (AA s).length /\ x.j <= (AA s).length /\ (AA s).length - x.i = q /\ ∀ y ∈ DZ s x.i x.j, JF s y = false, meas := λ x => (AA s).length - x.j, first := [(205, 104032)] }
noncomputable def BLW (s : List Gau) : IterAnn := { fn := RR, code := AF RR, live := [0, 2, 4, 5, 6], ann := { base := λ id => 100000 + 1000 * (id + 1), Γ := Sym.look [(ACA, C_ends.spec JW), (ZS, Mh), (jI, ACU)], E := [1000, 2000, 3000, 4032], n := 41, inner := λ gs id => if id = 2 then some [lnO s (gs.getD 0 0)] else if id = 6 then some [lnI s (gs.getD 0 0) (gs.getD 1 0)] else none } }
noncomputable def BLF (s : List Gau) : Ann := { ann 24 [(La, C_through.spec dGsK), (UL, C_passing.spec dGsL), (ZS, Mh)] with iter := λ g => if g = GT then some (BLW s) else none }
def C_line : Ctr := { α := List Gau, xs := λ s => [.d (BE s)], L := λ _ => [], val := λ s => .tup [.d (eLn (BL s).1), .bool (BL s).2], keep := λ _ => [], pre := λ s => [s.length < 1073741824 /\ ∀ g ∈ s, Dd g] }
def BJB (s : List Gau) : Prop := AO Try.prog (BLF s) AVX (AF AVX) (C_line.xs s) (AC []) (C_line.val s) [] [] []
abbrev XX (s : List Gau) : List Gau := AD s.length λ (i : Nat) => gD s i
abbrev VJ (s : List Gau) : Nat := (XX s).length
abbrev jA (s : List Gau) : Prop := VJ s = s.length
abbrev Ih (s : List Gau) (i : Nat) : Gau := gD (XX s) i
abbrev AGP (s : List Gau) (i : Nat) : Int := (Ih s i).st
abbrev Q8 (s : List Gau) (i : Nat) : Int := (Ih s i).lo
abbrev AIW (s : List Gau) (i : Nat) : Int := (Ih s i).hi
abbrev kZ (s : List Gau) : Prop := ∀ (i : Nat), i < VJ s -> AGP s i = (gD s i).st /\ Q8 s i = (gD s i).lo /\ AIW s i = (gD s i).hi
abbrev jU (s : List Gau) : List Gau := AD (VJ s) λ (i : Nat) => Ih s i
abbrev iZ (s : List Gau) : Nat := (jU s).length
abbrev Pq (s : List Gau) (i : Nat) : Gau := gD (jU s) i
abbrev mN (s : List Gau) : List Pt := AA (jU s)
abbrev vR (s : List Gau) : Nat := (mN s).length
abbrev uH (s : List Gau) : Prop := (AA s).length = vR s
abbrev qN (s : List Gau) (i : Nat) : Pt := gD (mN s) i
abbrev tG (s : List Gau) : Prop := ∀ (i : Nat), i < (AA s).length -> (gD (AA s) i).st = (qN s i).st /\ (gD (AA s) i).fl = (qN s i).fl
abbrev HK : Prop := Int.ofNat (0 : Nat) = Int.ofNat (0 : Nat)
abbrev UU (s : List Gau) : Prop := HK /\ HK /\ HK /\ HK /\ HK /\ HK /\ HK /\ HK /\ false = false /\ s.length = s.length /\ ∀ (i : Nat), i < s.length -> (gD s i).st =
 (gD s i).st /\ (gD s i).lo = (gD s i).lo /\ (gD s i).hi = (gD s i).hi
abbrev Qa (a : Nat) (s : List Gau) : Prop := a <= (AA s).length /\ ∀ (x : Ln), List.Mem x (NG s a) -> JF s x = false
abbrev vY (a : Nat) (s : List Gau) : Prop := (↑a : Int) < (↑(AA s).length : Int)
abbrev A5 (s : List Gau) : Prop := VJ s < (4611686018427387904 : Nat)
abbrev wV (g : Gau) (s : List Gau) : Prop := List.Mem g (XX s)
abbrev uS (g : Gau) : Prop := (0 : Int) <= g.st /\ g.st <= (2000 : Int) /\ (0 : Int) <= g.lo /\ g.lo <= g.hi /\ g.hi <= (200000 : Int)
abbrev Mv (s : List Gau) : Bool := (↑s.length : Int) == (0 : Int)
abbrev z_line_24 : Ln := AM (Pt.mk (0 : Int) (0 : Int))
abbrev Oj (s : List Gau) : Prop := ((0 : Int) <= (0 : Int) /\ (0 : Int) <= (2000 : Int)) /\ (BL s).fst.a0 = z_line_24.a0 /\ (BL s).fst.a1 = z_line_24.a1 /\ (BL s).fst.b0 = z_line_24.b0 /\ (BL s).fst.b1 =
 z_line_24.b1 /\ (BL s).snd = true
abbrev GZ (s : List Gau) : Prop := (AA s).length = (AA s).length
abbrev HG (s : List Gau) : Prop := ∀ (i : Nat), i < (AA s).length -> (gD (AA s) i).st = (gD (AA s) i).st /\ (gD (AA s) i).fl = (gD (AA s) i).fl
abbrev PG (s : List Gau) : Prop := (↑(AA s).length : Int) = (↑(AA s).length : Int)
abbrev Lq (s : List Gau) (a : Nat) : Nat := (AA s).length - a
abbrev Lc (a : IJ) (s : List Gau) (a1 : Nat) : Prop := a.i < (AA s).length /\ a.j <= (AA s).length /\ (AA s).length - a.i = Lq s a1 /\ ∀ (y : Ln), List.Mem y (DZ s a.i a.j) -> JF s y = false
abbrev qJ (a : IJ) (s : List Gau) : Prop := (↑a.j : Int) < (↑(AA s).length : Int)
abbrev sE (s : List Gau) (a : IJ) : Ln := Ln.mk (gD (AA s) a.i).st (gD (AA s) a.i).fl (gD (AA s) a.j).st (gD (AA s) a.j).fl
abbrev xA (s : List Gau) (a : IJ) : Bool := FT (sE s a)
abbrev zU (s : List Gau) (a : IJ) : Nat := (AA s).length - a.j
abbrev uM (s : List Gau) (a : IJ) (l : Nat) (a1 : Nat) : Prop := ∃ (a_1 : IJ), (GZ s /\ HG s /\ PG s /\ (↑a_1.j : Int) = IntKind.i64.wrap ((↑a.j : Int) + (1 : Int)) /\ Fn.yield l = Fn.yield l /\
 GZ s /\ HG s /\ GZ s /\ HG s /\ PG s /\ (↑a_1.i : Int) = (↑a.i : Int) /\ (gD (AA s) a_1.i).st = (gD (AA s) a.i).st /\ (gD (AA s) a_1.i).fl = (gD (AA s) a.i).fl /\ UU s) /\
 Lc a_1 s a1 /\ zU s a_1 < zU s a
theorem BOL (s : List Gau) : (BJB s) = ((jA s /\ kZ s) /\ ∀ (l : Nat), (iZ s = VJ s /\ (∀ (i : Nat), i < iZ s -> (Pq s i).st = AGP s i /\ (Pq s i).lo = Q8 s i /\
 (Pq s i).hi = AIW s i) /\ iZ s < (1073741824 : Nat) /\ True) /\ (∃ (a : Nat), (Fn.yield l = Fn.yield l /\ uH s /\ tG s /\ uH s /\ tG s /\ (↑(AA s).length : Int) = (↑(vR s)
 : Int) /\ (↑a : Int) = (0 : Int) /\ UU s) /\ Qa a s) /\ ∀ (a : Nat), Qa a s -> bif decide (vY a s) then ((0 : Int) <= (↑a : Int) /\ vY a s) /\ ((0 : Int) <= (gD (AA s) a).st /\ (gD (AA s)
 a).st <= (2000 : Int)) /\ l = l /\ (jA s /\ kZ s /\ (AM (gD (AA s) a)).a0 = (AM (gD (AA s) a)).a0 /\ (AM (gD (AA s) a)).a1 = (AM (gD (AA s) a)).a1 /\ (AM (gD (AA s) a)).b0 = (AM (gD (AA
 s) a)).b0 /\ (AM (gD (AA s) a)).b1 = (AM (gD (AA s) a)).b1 /\ A5 s /\ ∀ (g : Gau), wV g s -> ((0 : Int) <= (AM (gD (AA s) a)).a0 /\ (AM (gD (AA s) a)).a0 < (AM (gD (AA s) a)).b0 /\ (AM
 (gD (AA s) a)).b0 <= (2000 : Int) /\ (0 : Int) <= (AM (gD (AA s) a)).a1 /\ (AM (gD (AA s) a)).a1 <= (AM (gD (AA s) a)).b1 /\ (AM (gD (AA s) a)).b1 <= (200000 : Int)) /\ uS g) /\ bif (XX s).all
 λ (g : Gau) => BF (AM (gD (AA s) a)) g then bif Mv s then Oj s else (BL s).fst.a0 = (AM (gD (AA s) a)).a0 /\ (BL s).fst.a1 = (AM (gD (AA s) a)).a1 /\ (BL s).fst.b0 = (AM (gD
 (AA s) a)).b0 /\ (BL s).fst.b1 = (AM (gD (AA s) a)).b1 /\ (BL s).snd = true else (∃ (a_2 : IJ), (GZ s /\ HG s /\ PG s /\ (↑a_2.j : Int) = (0 : Int) /\ Fn.yield l = Fn.yield l /\ GZ s /\
 HG s /\ GZ s /\ HG s /\ PG s /\ (↑a_2.i : Int) = (↑a : Int) /\ (gD (AA s) a_2.i).st = (gD (AA s) a).st /\ (gD (AA s) a_2.i).fl = (gD (AA s) a).fl /\ UU s) /\ Lc a_2 s a) /\ ∀
 (a_2 : IJ), Lc a_2 s a -> bif decide (qJ a_2 s) then ((0 : Int) <= (↑a_2.j : Int) /\ qJ a_2 s) /\ bif if true = true then xA s a_2 else !xA s a_2 then l = l /\ (jA s /\ kZ s /\ (gD
 (AA s) a_2.i).st = (gD (AA s) a_2.i).st /\ (gD (AA s) a_2.i).fl = (gD (AA s) a_2.i).fl /\ (gD (AA s) a_2.j).st = (gD (AA s) a_2.j).st /\ (gD (AA s) a_2.j).fl = (gD (AA s) a_2.j).fl /\ A5 s /\ ∀
 (g : Gau), wV g s -> ((0 : Int) <= (gD (AA s) a_2.i).st /\ (gD (AA s) a_2.i).st < (gD (AA s) a_2.j).st /\ (gD (AA s) a_2.j).st <= (2000 : Int) /\ (0 : Int) <= (gD (AA s) a_2.i).fl /\ (gD (AA s) a_2.i).fl
 <= (gD (AA s) a_2.j).fl /\ (gD (AA s) a_2.j).fl <= (200000 : Int)) /\ uS g) /\ bif (XX s).all λ (g : Gau) => BF (sE s a_2) g then bif Mv s then Oj s else (BL s).fst.a0 = (gD
 (AA s) a_2.i).st /\ (BL s).fst.a1 = (gD (AA s) a_2.i).fl /\ (BL s).fst.b0 = (gD (AA s) a_2.j).st /\ (BL s).fst.b1 = (gD (AA s) a_2.j).fl /\ (BL s).snd = true else uM s a_2 l a else uM s
 a_2 l a else ∃ (a_4 : Nat), (Fn.yield l = Fn.yield l /\ GZ s /\ HG s /\ GZ s /\ HG s /\ PG s /\ (↑a_4 : Int) = IntKind.i64.wrap ((↑a_2.i : Int) + (1 : Int)) /\ UU s) /\ Qa a_4 s /\
 Lq s a_4 < Lq s a else bif Mv s then Oj s else (BL s).fst.a0 = (0 : Int) /\ (BL s).fst.a1 = (0 : Int) /\ (BL s).fst.b0 = (0 : Int) /\ (BL s).fst.b1 = (0 : Int) /\ (BL s).snd =
 false) := by kernel_rfl
def okP (p : Pt) : Prop := 0 <= p.st /\ p.st <= 2000 /\ 0 <= p.fl /\ p.fl <= 200000
theorem BJW {l : List Pt} {p q : Pt} : q ∈ E7 l p ↔ q ∈ l ∨ q = p := by
 unfold E7; split
 ·rename_i h
  exact ⟨.inl, λ h2 => h2.elim id λ h2 => h2 ▸ h⟩
 ·simp
theorem AKK : ∀ (s : List Gau) (l : List Pt) (p : Pt), p ∈ s.foldl addG l ↔ p ∈ l ∨ ∃ g ∈ s, p = ⟨g.st, g.lo⟩ ∨ p = ⟨g.st, g.hi⟩
 | [], l, p => by simp
 | g :: s, l, p => by
  rw [List.foldl_cons, AKK s]
  simp only [addG, BJW, List.mem_cons, exists_eq_or_imp]
  constructor
  ·rintro (((h | h) | h) | h)
   ·exact .inl h
   ·exact .inr (.inl (.inl h))
   ·exact .inr (.inl (.inr h))
   ·exact .inr (.inr h)
  ·rintro (h | (h | h) | h)
   ·exact .inl (.inl (.inl h))
   ·exact .inl (.inl (.inr h))
   ·exact .inl (.inr h)
   ·exact .inr h
theorem BJL {s : List Gau} {p : Pt} : p ∈ AA s ↔ ∃ g ∈ s, p = ⟨g.st, g.lo⟩ ∨ p = ⟨g.st, g.hi⟩ := by
 unfold AA; rw [AKK]; simp
theorem APF {s : List Gau} (h : ∀ g ∈ s, Dd g) {p : Pt} (hp : p ∈ AA s) : okP p := by
 obtain ⟨g, hg, rfl | rfl⟩ := BJL.1 hp
 ·obtain ⟨h1, h2, h3, h4, h5⟩ := h g hg; exact ⟨h1, h2, h3, by show g.lo <= _; omega⟩
 ·obtain ⟨h1, h2, h3, h4, h5⟩ := h g hg; exact ⟨h1, h2, by show 0 <= g.hi; omega, h5⟩
theorem ARB {p : Pt} (h : okP p) : HY (AM p) := by
 obtain ⟨h1, h2, h3, h4⟩ := h
 unfold AM; split
 ·exact ⟨by show 0 <= p.st - 1; omega, by show p.st - 1 < p.st; omega, h2, h3, Int.le_refl _, h4⟩
 ·exact ⟨h1, by show p.st < p.st + 1; omega, by show p.st + 1 <= 2000; omega, h3, Int.le_refl _, h4⟩
theorem Gy {x : Ln} : FT x = true ↔ HY x := by
 unfold FT riP CJ HY
 simp only [Bool.and_eq_true, decide_eq_true_eq]
 constructor
 ·intro h; exact ⟨by omega, by omega, by omega, by omega, by omega, by omega⟩
 ·intro h; exact ⟨⟨⟨⟨⟨by omega, by omega⟩, by omega, by omega⟩, ⟨by omega, by omega⟩, by omega, by omega⟩, by omega⟩, by omega⟩
theorem BCT {s : List Gau} {i : Nat} (h : i < (AA s).length) : NG s (i + 1) = NG s i ++ blk (AA s) (gD (AA s) i) := by
 unfold NG; rw [DG h, List.flatMap_append]; simp
theorem Fx {s : List Gau} : NG s (AA s).length = Ec s := by unfold NG Ec; rw [List.take_length]
theorem Kd {s : List Gau} {i : Nat} (h : i < (AA s).length) : DZ s i (AA s).length = NG s (i + 1) := by
 rw [BCT h]; unfold DZ blk; rw [List.take_length]
theorem PD {s : List Gau} {i j : Nat} (h : j < (AA s).length) : DZ s i (j + 1) = DZ s i j ++ (if FT (J2 (gD (AA s) i) (gD (AA s) j)) then [J2 (gD (AA s) i) (gD (AA s) j)] else []) := by
 unfold DZ
 rw [DG h, List.map_append, List.filter_append, <- List.cons_append, <- List.append_assoc]
 simp only [List.map_cons, List.map_nil]
 congr 1
 split
 ·rename_i h1; rw [List.filter_cons_of_pos h1]; rfl
 ·rename_i h1; rw [List.filter_cons_of_neg h1]; rfl
theorem BVC {s : List Gau} : ∀ {i : Nat}, ∃ r, Ec s = NG s i ++ r := λ {i} => by
 refine ⟨((AA s).drop i).flatMap (blk (AA s)), ?_⟩
 unfold Ec NG
 rw [<- List.flatMap_append, List.take_append_drop]
theorem BGM {s : List Gau} {i j : Nat} (h : i < (AA s).length) : ∃ r, Ec s = DZ s i j ++ r := by
 obtain ⟨r, hr⟩ := BVC (s := s) (i := i + 1)
 rw [hr, <- Kd h]
 refine ⟨(((AA s).drop j).map (J2 (gD (AA s) i))).filter FT ++ r, ?_⟩
 unfold DZ
 rw [List.take_length]
 conv => lhs; rw [<- List.take_append_drop j (AA s)]
 simp only [List.map_append, List.filter_append, List.append_assoc, List.cons_append]
 rw [List.take_append_drop]
theorem BOJ {α : Type} {f : α -> Bool} {p : List α} {x : α} {r : List α} (h : ∀ y ∈ p, f y = false) (hx : f x = true) : (p ++ x :: r).find? f = some x := by
 rw [List.find?_append, List.find?_eq_none.2 (λ y hy => by simp [h y hy])]
 simp [hx]
theorem Y3 {s : List Gau} {p : List Ln} {x : Ln} {r : List Ln} (h : Ec s = p ++ x :: r) (h1 : ∀ y ∈ p, JF s y = false) (hx : JF s x = true) (h0 : s.length ≠ 0) : BL s = (x, true) := by
 unfold BL; rw [if_neg h0, h, BOJ h1 hx]
theorem BEJ {s : List Gau} (h : s.length = 0) : BL s = (AM ⟨0, 0⟩, true) := if_pos h
theorem BCV {s : List Gau} (h : ∀ y ∈ Ec s, JF s y = false) (h0 : s.length ≠ 0) : BL s = (default, false) := by
 unfold BL; rw [if_neg h0, List.find?_eq_none.2 (λ y hy => by simp [h y hy])]
theorem BCA : AG Try.prog P0 (C_line.spec JW) := GD C_line BLF [] [] BMQ (λ _ => by kernel_rfl) (λ _ => AB dE (AB Sm (AB RU AE))) (λ (s : List Gau) h => by
 show BJB s; rw [BOL]; delta XX VJ jA Ih AGP Q8 AIW kZ jU iZ Pq mN vR uH qN tG HK UU Qa vY A5 wV uS Mv z_line_24 Oj GZ HG PG Lq Lc qJ sE xA zU uM; simp only [CC, eq_self, implies_true, forall_const, if_true]
 obtain ⟨hn, hg⟩ : s.length < 1073741824 /\ ∀ g ∈ s, Dd g := h
 have nil : ((s.length : Int) == 0) = true -> (0 <= (0 : Int) /\ (0 : Int) <= 2000) /\ (BL s).fst.a0 = (AM ⟨0, 0⟩).a0 /\ (BL s).fst.a1 = (AM ⟨0, 0⟩).a1 /\ (BL s).fst.b0 = (AM ⟨0, 0⟩).b0 /\ (BL s).fst.b1 = (AM ⟨0, 0⟩).b1 /\ (BL s).snd = true := λ h => by
  rw [BEJ (by simpa using h)]; exact ⟨by omega, rfl, rfl, rfl, rfl, rfl⟩
 have ok : ∀ x, HY x -> s.length < 4611686018427387904 /\ ∀ g : Gau, List.Mem g s -> HY x /\ Dd g := λ x hx => ⟨by omega, λ g hgs => ⟨hx, hg g hgs⟩⟩
 have he : (AA s).length <= 2 * s.length := by
  have := PA (s := s) s.length (Nat.le_refl _)
  unfold JY at this; rw [List.take_length] at this; exact this
 have e_ok : ∀ i, i < (AA s).length -> okP (gD (AA s) i) := λ i hi => APF hg (EG hi)
 refine ⟨by omega, ⟨0, rfl, Nat.zero_le _, λ x hx => by cases hx⟩, λ i ⟨hi, hp⟩ => ⟨λ hlt => ?_, λ hge => ?_⟩⟩
 ·have hlt : i < (AA s).length := by omega
  obtain ⟨r0, hr0⟩ := BGM (s := s) (j := 0) hlt
  have hpe : DZ s i 0 = NG s i ++ [AM (gD (AA s) i)] := by unfold DZ; simp
  have hr0' : Ec s = NG s i ++ AM (gD (AA s) i) :: r0 := by rw [hr0, hpe]; simp
  refine ⟨⟨by omega, by omega⟩, ⟨(e_ok i hlt).1, (e_ok i hlt).2.1⟩, ok _ (ARB (e_ok i hlt)), λ hpa => ⟨nil, λ h0 => ?_⟩, λ hpa => ⟨⟨⟨i, 0⟩, ⟨rfl, rfl, rfl, rfl⟩, hlt, Nat.zero_le _, rfl, λ y hy => ?_⟩, λ x ⟨hx1, hx2, hx3, hx4⟩ => ⟨λ hj => ?_, λ hj => ?_⟩⟩⟩
  ·rw [Y3 hr0' hp hpa (by simpa using h0)]; exact ⟨rfl, rfl, rfl, rfl, rfl⟩
  ·have hy : y ∈ NG s i ++ [AM (gD (AA s) i)] := hpe ▸ hy
   rcases List.mem_append.1 hy with hy | hy
   ·exact hp y hy
   ·rw [List.mem_singleton.1 hy]; exact hpa
  ·have hj : x.j < (AA s).length := by omega
   have step : (∀ y ∈ DZ s x.i (x.j + 1), JF s y = false) -> ∃ z : IJ, ((z.j : Int) = IntKind.i64.wrap ((x.j : Int) + 1) /\ (z.i : Int) = x.i /\ (gD (AA s) z.i).st = (gD (AA s) x.i).st /\ (gD (AA s) z.i).fl = (gD (AA s) x.i).fl) /\ (z.i < (AA s).length /\ z.j <= (AA s).length /\ (AA s).length - z.i = (AA s).length - i /\ ∀ y : Ln, List.Mem y (DZ s z.i z.j) -> JF s y = false) /\ (AA s).length - z.j < (AA s).length - x.j := λ h =>
    ⟨⟨x.i, x.j + 1⟩, ⟨(BH (by omega)).symm, rfl, rfl, rfl⟩, ⟨hx1, hj, hx3, h⟩, by show (AA s).length - (x.j + 1) < _; omega⟩
   refine ⟨⟨by omega, by omega⟩, λ hri => ⟨ok ⟨_, _, _, _⟩ (Gy.1 hri), λ hpa => ⟨nil, λ h0 => ?_⟩, λ hpa => step λ y hy => ?_⟩, λ hri => step λ y hy => ?_⟩
   ·have hri' : FT (J2 (gD (AA s) x.i) (gD (AA s) x.j)) = true := hri
    obtain ⟨r, hr⟩ := BGM (s := s) (j := x.j + 1) hx1
    rw [PD hj, if_pos hri', List.append_assoc] at hr
    rw [Y3 hr hx4 hpa (by simpa using h0)]; exact ⟨rfl, rfl, rfl, rfl, rfl⟩
   ·have hri' : FT (J2 (gD (AA s) x.i) (gD (AA s) x.j)) = true := hri
    rw [PD hj, if_pos hri'] at hy
    rcases List.mem_append.1 hy with hy | hy
    ·exact hx4 y hy
    ·rw [List.mem_singleton.1 hy]; exact hpa
   ·have hri' : ¬ FT (J2 (gD (AA s) x.i) (gD (AA s) x.j)) = true := by
     intro h; have h : FT ⟨_, _, _, _⟩ = true := h; rw [hri] at h; cases h
    rw [PD hj, if_neg hri', List.append_nil] at hy
    exact hx4 y hy
  ·have hje : x.j = (AA s).length := by omega
   refine ⟨x.i + 1, (BH (by omega)).symm, ⟨by omega, λ y hy => ?_⟩, by omega⟩
   rw [<- Kd hx1] at hy
   exact hx4 y (hje ▸ hy)
 ·have hie : i = (AA s).length := by omega
  rw [hie, Fx] at hp
  refine ⟨nil, λ h0 => ?_⟩
  rw [BCV hp (by simpa using h0)]; exact ⟨rfl, rfl, rfl, rfl, rfl⟩) (λ s => BLA GT (BLW s) rfl rfl (AB eZ (AB RU (AB Zy AE))) Kt (by kernel_rfl) (by kernel_rfl)) _
end Go.Bal
