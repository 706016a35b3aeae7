/- Package rating: a line that passes. -/
import Derived.Test.YtoihhodbkimedaaRatC
set_option linter.unusedVariables false
set_option linter.unusedSimpArgs false
namespace Go.Bal
open Go Go.Sym Go.Proofs
def dGsK : List AVal -> Heap -> Option (List Gau × List (Nat × Nat) × List Nat) := UV
def C_through : Ctr := { α := List Gau, xs := λ s => [.d (BO s)], L := λ _ => [], val := λ s => .fn (.func HR) [] [.bptr 0 0], keep := λ s => [(0, .live (.box [.d (BO s)]))] }
def BAS (s : List Gau) : Prop := AY Try.prog (ann 4 []) O5 (AF O5) (C_through.xs s) (AC []) (C_through.val s) (C_through.keep s) [(0, 1000)] []
theorem BOO (s : List Gau) : (BAS s) = (s.length = s.length /\ ∀ (i : Nat), i < s.length -> (gD s i).st = (gD s i).st /\ (gD s i).lo = (gD s i).lo /\ (gD s i).hi = (gD s i).hi) := by kernel_rfl
theorem kW : AG Try.prog Ql (C_through.spec dGsK) := JX C_through (λ _ => ann 4 []) [(0, 1000)] [] BOM (λ _ => by kernel_rfl) (λ _ => AE) (λ (s : List Gau) _ => by
 show BAS s; rw [BOO]; simp) (λ _ => KJ rfl rfl) _
structure GsL where
 s : List Gau
 x : Ln
def dGsL : List AVal -> Heap -> Option (GsL × List (Nat × Nat) × List Nat)
 | [y, .d x], H => match AIZ y H with
  | some (l, f) => some (⟨l, dLn x⟩, [], f)
  | none => none
 | _, _ => none
def C_passing : Ctr := { α := GsL, xs := λ a => [.d (BO a.s), .d (eLn a.x)], L := λ _ => [], val := λ a => .bool (a.s.all λ g => BR a.x g), keep := λ _ => [], pre := λ a => [a.s.length < 4611686018427387904 /\ (∀ g ∈ a.s, (DS a.x /\ GY g))] }
def BAX : Ann := ann 9 [(n_eG, C4Gp.spec d4Gp)]
def BAU (a : GsL) : Prop := AY Try.prog BAX AAC (AF AAC) (C_passing.xs a) (AC []) (C_passing.val a) [] [] []
theorem BMT (a : GsL) : (BAU a) = (((AD a.s.length λ (i : Nat) => gD a.s i).length = a.s.length /\ (∀ (i : Nat), i < (AD a.s.length λ (i : Nat) => gD a.s i).length -> (gD (AD a.s.length λ (i : Nat) =>
 gD a.s i) i).st = (gD a.s i).st /\ (gD (AD a.s.length λ (i : Nat) => gD a.s i) i).lo = (gD a.s i).lo /\ (gD (AD a.s.length λ (i : Nat) => gD a.s i) i).hi = (gD a.s i).hi) /\ a.x.a0 = a.x.a0 /\ a.x.a1 = a.x.a1 /\ a.x.b0
 = a.x.b0 /\ a.x.b1 = a.x.b1 /\ (AD a.s.length λ (i : Nat) => gD a.s i).length < 4611686018427387904 /\ ∀ (x : Gau), List.Mem x (AD a.s.length λ (i : Nat) => gD a.s i) -> (0 <= a.x.a0 /\ a.x.a0 < a.x.b0 /\ a.x.b0 <= 2000 /\
 0 <= a.x.a1 /\ a.x.a1 <= a.x.b1 /\ a.x.b1 <= 200000) /\ 0 <= x.st /\ x.st <= 2000 /\ 0 <= x.lo /\ x.lo <= x.hi /\ x.hi <= 200000) /\ (a.s.all λ (g : Gau) => BR a.x g) = (AD a.s.length λ (i : Nat) => gD a.s i).all λ (x : Gau)
 => BR a.x x) := by kernel_rfl
theorem mY : AG Try.prog WG (C_passing.spec dGsL) := JX C_passing (λ _ => BAX) [] [] BNZ (λ _ => by kernel_rfl) (λ _ => AB CQG AE) (λ (a : GsL) h => by
 show BAU a; rw [BMT]; simp only [CC, eq_self, implies_true, forall_const]
 have h : a.s.length < 4611686018427387904 /\ (∀ g ∈ a.s, (DS a.x /\ GY g)) := h
 first | exact h | exact ⟨h, rfl⟩) (λ _ => KJ rfl rfl) _
def Gu (a b : Pt) : Ln := ⟨a.st, a.fl, b.st, b.fl⟩
def blk (e : List Pt) (a : Pt) : List Ln := AL a :: (e.map (Gu a)).filter Ar
def LN (s : List Gau) : List Ln := (AA s).flatMap (blk (AA s))
def JC (s : List Gau) (x : Ln) : Bool := s.all λ g => BR x g
def BH (s : List Gau) : Ln × Bool := if s.length = 0 then (AL ⟨0, 0⟩, true) else match (LN s).find? (JC s) with
 | some x => (x, true)
 | none => (default, false)
def zLn : HCell := .live (.box [.int 0, .int 0, .int 0, .int 0])
def lnH (s : List Gau) : List (Nat × HCell) := [(1000, zLn), (2000, zLn), (3000, .live (.box [.bool false])), (4032, .live (.box [.fn (.func WG) [.d (BO s)] []]))]
def lnS (s : List Gau) (l i : Nat) : List (Nat × AVal) := [(0, .fn (.yield l) [] []), (3, .d (ePts (AA s))), (11, .d (ePts (AA s))), (12, .int (AA s).length), (13, .int i)]
def PK (s : List Gau) (i : Nat) : List Ln := ((AA s).take i).flatMap (blk (AA s))
def ET (s : List Gau) (i j : Nat) : List Ln := PK s i ++ AL (gD (AA s) i) :: (((AA s).take j).map (Gu (gD (AA s) i))).filter Ar
def lnO (s : List Gau) (l : Nat) : Shape := { α := Nat, dflt := 0, T := λ i => ⟨lnS s l i, lnH s⟩, inv := λ i => i <= (AA s).length /\ ∀ x ∈ PK s i, JC s x = false, meas := λ i => (AA s).length - i }
def lnI (s : List Gau) (q l : Nat) : Shape := { α := IJ, dflt := default, T := λ x => ⟨[(5, .bptr 205 0), (22, .d (ePts (AA s))), (23, .int (AA s).length), (24, .int x.j)] ++ lnS s l x.i, (205, .live (.box [.int (gD (AA s) x.i).st, .int (gD (AA s) x.i).fl])) :: lnH s⟩, inv := λ x => x.i < (AA s).length /\ x.j <= (AA s).length /\ (AA s).length - x.i = q /\ ∀ y ∈ ET s x.i x.j, JC s y = false, meas := λ x => (AA s).length - x.j, first := [(205, 104032)] }
noncomputable def BZO (s : List Gau) : IterAnn := { fn := RL, code := AF RL, live := [0, 2, 4, 5, 6], ann := { base := λ id => 100000 + 1000 * (id + 1), Γ := Sym.look [(ASL, C_ends.spec UV), (Fp, Sy), (BKJ, BSY)], E := [1000, 2000, 3000, 4032], n := 41, inner := λ gs id => if id = 2 then some [lnO s (gs.getD 0 0)] else if id = 6 then some [lnI s (gs.getD 0 0) (gs.getD 1 0)] else none } }
noncomputable def CCJ (s : List Gau) : Ann := { ann 24 [(Ql, C_through.spec dGsK), (WG, C_passing.spec dGsL), (Fp, Sy)] with iter := λ g => if g = HR then some (BZO s) else none }
def C_line : Ctr := { α := List Gau, xs := λ s => [.d (BO s)], L := λ _ => [], val := λ s => .tup [.d (eLn (BH s).1), .bool (BH s).2], keep := λ _ => [], pre := λ s => [s.length < 1073741824 /\ ∀ g ∈ s, GY g] }
def BVL (s : List Gau) : Prop := AY Try.prog (CCJ s) BPN (AF BPN) (C_line.xs s) (AC []) (C_line.val s) [] [] []
abbrev WW (s : List Gau) : List Gau := AD s.length λ (i : Nat) => gD s i
abbrev WQ (s : List Gau) : Nat := (WW s).length
abbrev wJ (s : List Gau) : Prop := WQ s = s.length
abbrev Mm (s : List Gau) (i : Nat) : Gau := gD (WW s) i
abbrev AYV (s : List Gau) (i : Nat) : Int := (Mm s i).st
abbrev AYY (s : List Gau) (i : Nat) : Int := (Mm s i).lo
abbrev AMA (s : List Gau) (i : Nat) : Int := (Mm s i).hi
abbrev sM (s : List Gau) : Prop := ∀ (i : Nat), i < WQ s -> AYV s i = (gD s i).st /\ AYY s i = (gD s i).lo /\ AMA s i = (gD s i).hi
abbrev vJ (s : List Gau) : List Gau := AD (WQ s) λ (i : Nat) => Mm s i
abbrev oN (s : List Gau) : Nat := (vJ s).length
abbrev Oy (s : List Gau) (i : Nat) : Gau := gD (vJ s) i
abbrev AEA (s : List Gau) : List Pt := AA (vJ s)
abbrev yZ (s : List Gau) : Nat := (AEA s).length
abbrev U1 (s : List Gau) : Prop := (AA s).length = yZ s
abbrev AEG (s : List Gau) (i : Nat) : Pt := gD (AEA s) i
abbrev AEK (s : List Gau) : Prop := ∀ (i : Nat), i < (AA s).length -> (gD (AA s) i).st = (AEG s i).st /\ (gD (AA s) i).fl = (AEG s i).fl
abbrev HY : Prop := Int.ofNat (0 : Nat) = Int.ofNat (0 : Nat)
abbrev Ai (s : List Gau) : Prop := HY /\ HY /\ HY /\ HY /\ HY /\ HY /\ HY /\ HY /\ false = false /\ s.length = s.length /\ ∀ (i : Nat), i < s.length -> (gD s i).st =
 (gD s i).st /\ (gD s i).lo = (gD s i).lo /\ (gD s i).hi = (gD s i).hi
abbrev Qu (a : Nat) (s : List Gau) : Prop := a <= (AA s).length /\ ∀ (x : Ln), List.Mem x (PK s a) -> JC s x = false
abbrev zU (a : Nat) (s : List Gau) : Prop := (↑a : Int) < (↑(AA s).length : Int)
abbrev B5 (s : List Gau) : Prop := WQ s < (4611686018427387904 : Nat)
abbrev O1 (g : Gau) (s : List Gau) : Prop := List.Mem g (WW s)
abbrev O6 (g : Gau) : Prop := (0 : Int) <= g.st /\ g.st <= (2000 : Int) /\ (0 : Int) <= g.lo /\ g.lo <= g.hi /\ g.hi <= (200000 : Int)
abbrev Pp (s : List Gau) : Bool := (↑s.length : Int) == (0 : Int)
abbrev z_line_24 : Ln := AL (Pt.mk (0 : Int) (0 : Int))
abbrev Rr (s : List Gau) : Prop := ((0 : Int) <= (0 : Int) /\ (0 : Int) <= (2000 : Int)) /\ (BH s).fst.a0 = z_line_24.a0 /\ (BH s).fst.a1 = z_line_24.a1 /\ (BH s).fst.b0 = z_line_24.b0 /\ (BH s).fst.b1 =
 z_line_24.b1 /\ (BH s).snd = true
abbrev IC (s : List Gau) : Prop := (AA s).length = (AA s).length
abbrev HX (s : List Gau) : Prop := ∀ (i : Nat), i < (AA s).length -> (gD (AA s) i).st = (gD (AA s) i).st /\ (gD (AA s) i).fl = (gD (AA s) i).fl
abbrev RE (s : List Gau) : Prop := (↑(AA s).length : Int) = (↑(AA s).length : Int)
abbrev Tb (s : List Gau) (a : Nat) : Nat := (AA s).length - a
abbrev Qi (a : IJ) (s : List Gau) (a1 : Nat) : Prop := a.i < (AA s).length /\ a.j <= (AA s).length /\ (AA s).length - a.i = Tb s a1 /\ ∀ (y : Ln), List.Mem y (ET s a.i a.j) -> JC s y = false
abbrev I0 (a : IJ) (s : List Gau) : Prop := (↑a.j : Int) < (↑(AA s).length : Int)
abbrev P5 (s : List Gau) (a : IJ) : Ln := Ln.mk (gD (AA s) a.i).st (gD (AA s) a.i).fl (gD (AA s) a.j).st (gD (AA s) a.j).fl
abbrev B9 (s : List Gau) (a : IJ) : Bool := Ar (P5 s a)
abbrev ACB (s : List Gau) (a : IJ) : Nat := (AA s).length - a.j
abbrev H9 (s : List Gau) (a : IJ) (l : Nat) (a1 : Nat) : Prop := ∃ (a_1 : IJ), (IC s /\ HX s /\ RE s /\ (↑a_1.j : Int) = IntKind.i64.wrap ((↑a.j : Int) + (1 : Int)) /\ Fn.yield l = Fn.yield l /\
 IC s /\ HX s /\ IC s /\ HX s /\ RE s /\ (↑a_1.i : Int) = (↑a.i : Int) /\ (gD (AA s) a_1.i).st = (gD (AA s) a.i).st /\ (gD (AA s) a_1.i).fl = (gD (AA s) a.i).fl /\ Ai s) /\
 Qi a_1 s a1 /\ ACB s a_1 < ACB s a
theorem CET (s : List Gau) : (BVL s) = ((wJ s /\ sM s) /\ ∀ (l : Nat), (oN s = WQ s /\ (∀ (i : Nat), i < oN s -> (Oy s i).st = AYV s i /\ (Oy s i).lo = AYY s i /\
 (Oy s i).hi = AMA s i) /\ oN s < (1073741824 : Nat) /\ True) /\ (∃ (a : Nat), (Fn.yield l = Fn.yield l /\ U1 s /\ AEK s /\ U1 s /\ AEK s /\ (↑(AA s).length : Int) = (↑(yZ s)
 : Int) /\ (↑a : Int) = (0 : Int) /\ Ai s) /\ Qu a s) /\ ∀ (a : Nat), Qu a s -> bif decide (zU a s) then ((0 : Int) <= (↑a : Int) /\ zU a s) /\ ((0 : Int) <= (gD (AA s) a).st /\ (gD (AA s)
 a).st <= (2000 : Int)) /\ l = l /\ (wJ s /\ sM s /\ (AL (gD (AA s) a)).a0 = (AL (gD (AA s) a)).a0 /\ (AL (gD (AA s) a)).a1 = (AL (gD (AA s) a)).a1 /\ (AL (gD (AA s) a)).b0 = (AL (gD (AA
 s) a)).b0 /\ (AL (gD (AA s) a)).b1 = (AL (gD (AA s) a)).b1 /\ B5 s /\ ∀ (g : Gau), O1 g s -> ((0 : Int) <= (AL (gD (AA s) a)).a0 /\ (AL (gD (AA s) a)).a0 < (AL (gD (AA s) a)).b0 /\ (AL
 (gD (AA s) a)).b0 <= (2000 : Int) /\ (0 : Int) <= (AL (gD (AA s) a)).a1 /\ (AL (gD (AA s) a)).a1 <= (AL (gD (AA s) a)).b1 /\ (AL (gD (AA s) a)).b1 <= (200000 : Int)) /\ O6 g) /\ bif (WW s).all
 λ (g : Gau) => BR (AL (gD (AA s) a)) g then bif Pp s then Rr s else (BH s).fst.a0 = (AL (gD (AA s) a)).a0 /\ (BH s).fst.a1 = (AL (gD (AA s) a)).a1 /\ (BH s).fst.b0 = (AL (gD
 (AA s) a)).b0 /\ (BH s).fst.b1 = (AL (gD (AA s) a)).b1 /\ (BH s).snd = true else (∃ (a_2 : IJ), (IC s /\ HX s /\ RE s /\ (↑a_2.j : Int) = (0 : Int) /\ Fn.yield l = Fn.yield l /\ IC s /\
 HX s /\ IC s /\ HX s /\ RE s /\ (↑a_2.i : Int) = (↑a : Int) /\ (gD (AA s) a_2.i).st = (gD (AA s) a).st /\ (gD (AA s) a_2.i).fl = (gD (AA s) a).fl /\ Ai s) /\ Qi a_2 s a) /\ ∀
 (a_2 : IJ), Qi a_2 s a -> bif decide (I0 a_2 s) then ((0 : Int) <= (↑a_2.j : Int) /\ I0 a_2 s) /\ bif if true = true then B9 s a_2 else !B9 s a_2 then l = l /\ (wJ s /\ sM s /\ (gD
 (AA s) a_2.i).st = (gD (AA s) a_2.i).st /\ (gD (AA s) a_2.i).fl = (gD (AA s) a_2.i).fl /\ (gD (AA s) a_2.j).st = (gD (AA s) a_2.j).st /\ (gD (AA s) a_2.j).fl = (gD (AA s) a_2.j).fl /\ B5 s /\ ∀
 (g : Gau), O1 g s -> ((0 : Int) <= (gD (AA s) a_2.i).st /\ (gD (AA s) a_2.i).st < (gD (AA s) a_2.j).st /\ (gD (AA s) a_2.j).st <= (2000 : Int) /\ (0 : Int) <= (gD (AA s) a_2.i).fl /\ (gD (AA s) a_2.i).fl
 <= (gD (AA s) a_2.j).fl /\ (gD (AA s) a_2.j).fl <= (200000 : Int)) /\ O6 g) /\ bif (WW s).all λ (g : Gau) => BR (P5 s a_2) g then bif Pp s then Rr s else (BH s).fst.a0 = (gD
 (AA s) a_2.i).st /\ (BH s).fst.a1 = (gD (AA s) a_2.i).fl /\ (BH s).fst.b0 = (gD (AA s) a_2.j).st /\ (BH s).fst.b1 = (gD (AA s) a_2.j).fl /\ (BH s).snd = true else H9 s a_2 l a else H9 s
 a_2 l a else ∃ (a_4 : Nat), (Fn.yield l = Fn.yield l /\ IC s /\ HX s /\ IC s /\ HX s /\ RE s /\ (↑a_4 : Int) = IntKind.i64.wrap ((↑a_2.i : Int) + (1 : Int)) /\ Ai s) /\ Qu a_4 s /\
 Tb s a_4 < Tb s a else bif Pp s then Rr s else (BH s).fst.a0 = (0 : Int) /\ (BH s).fst.a1 = (0 : Int) /\ (BH s).fst.b0 = (0 : Int) /\ (BH s).fst.b1 = (0 : Int) /\ (BH s).snd =
 false) := by kernel_rfl
def okP (p : Pt) : Prop := 0 <= p.st /\ p.st <= 2000 /\ 0 <= p.fl /\ p.fl <= 200000
theorem BWO {l : List Pt} {p q : Pt} : q ∈ addP l p ↔ q ∈ l ∨ q = p := by
 unfold addP; split
 ·rename_i h
  exact ⟨.inl, λ h2 => h2.elim id λ h2 => h2 ▸ h⟩
 ·simp
theorem BBP : ∀ (s : List Gau) (l : List Pt) (p : Pt), p ∈ s.foldl addG l ↔ p ∈ l ∨ ∃ g ∈ s, p = ⟨g.st, g.lo⟩ ∨ p = ⟨g.st, g.hi⟩
 | [], l, p => by simp
 | g :: s, l, p => by
  rw [List.foldl_cons, BBP s]
  simp only [addG, BWO, List.mem_cons, exists_eq_or_imp]
  constructor
  ·rintro (((h | h) | h) | h)
   ·exact .inl h
   ·exact .inr (.inl (.inl h))
   ·exact .inr (.inl (.inr h))
   ·exact .inr (.inr h)
  ·rintro (h | (h | h) | h)
   ·exact .inl (.inl (.inl h))
   ·exact .inl (.inl (.inr h))
   ·exact .inl (.inr h)
   ·exact .inr h
theorem ALC {s : List Gau} {p : Pt} : p ∈ AA s ↔ ∃ g ∈ s, p = ⟨g.st, g.lo⟩ ∨ p = ⟨g.st, g.hi⟩ := by
 unfold AA; rw [BBP]; simp
theorem UX {s : List Gau} (h : ∀ g ∈ s, GY g) {p : Pt} (hp : p ∈ AA s) : okP p := by
 obtain ⟨g, hg, rfl | rfl⟩ := ALC.1 hp
 ·obtain ⟨h1, h2, h3, h4, h5⟩ := h g hg; exact ⟨h1, h2, h3, by show g.lo <= _; omega⟩
 ·obtain ⟨h1, h2, h3, h4, h5⟩ := h g hg; exact ⟨h1, h2, by show 0 <= g.hi; omega, h5⟩
theorem VS {p : Pt} (h : okP p) : DS (AL p) := by
 obtain ⟨h1, h2, h3, h4⟩ := h
 unfold AL; split
 ·exact ⟨by show 0 <= p.st - 1; omega, by show p.st - 1 < p.st; omega, h2, h3, Int.le_refl _, h4⟩
 ·exact ⟨h1, by show p.st < p.st + 1; omega, by show p.st + 1 <= 2000; omega, h3, Int.le_refl _, h4⟩
theorem WA {x : Ln} : Ar x = true ↔ DS x := by
 unfold Ar riP FT DS
 simp only [Bool.and_eq_true, decide_eq_true_eq]
 constructor
 ·intro h; exact ⟨by omega, by omega, by omega, by omega, by omega, by omega⟩
 ·intro h; exact ⟨⟨⟨⟨⟨by omega, by omega⟩, by omega, by omega⟩, ⟨by omega, by omega⟩, by omega, by omega⟩, by omega⟩, by omega⟩
theorem BTR {s : List Gau} {i : Nat} (h : i < (AA s).length) : PK s (i + 1) = PK s i ++ blk (AA s) (gD (AA s) i) := by
 unfold PK; rw [EZ h, List.flatMap_append]; simp
theorem Jt {s : List Gau} : PK s (AA s).length = LN s := by unfold PK LN; rw [List.take_length]
theorem Je {s : List Gau} {i : Nat} (h : i < (AA s).length) : ET s i (AA s).length = PK s (i + 1) := by
 rw [BTR h]; unfold ET blk; rw [List.take_length]
theorem RC {s : List Gau} {i j : Nat} (h : j < (AA s).length) : ET s i (j + 1) = ET s i j ++ (if Ar (Gu (gD (AA s) i) (gD (AA s) j)) then [Gu (gD (AA s) i) (gD (AA s) j)] else []) := by
 unfold ET
 rw [EZ h, List.map_append, List.filter_append, <- List.cons_append, <- List.append_assoc]
 simp only [List.map_cons, List.map_nil]
 congr 1
 split
 ·rename_i h1; rw [List.filter_cons_of_pos h1]; rfl
 ·rename_i h1; rw [List.filter_cons_of_neg h1]; rfl
theorem CKJ {s : List Gau} : ∀ {i : Nat}, ∃ r, LN s = PK s i ++ r := λ {i} => by
 refine ⟨((AA s).drop i).flatMap (blk (AA s)), ?_⟩
 unfold LN PK
 rw [<- List.flatMap_append, List.take_append_drop]
theorem CBT {s : List Gau} {i j : Nat} (h : i < (AA s).length) : ∃ r, LN s = ET s i j ++ r := by
 obtain ⟨r, hr⟩ := CKJ (s := s) (i := i + 1)
 rw [hr, <- Je h]
 refine ⟨(((AA s).drop j).map (Gu (gD (AA s) i))).filter Ar ++ r, ?_⟩
 unfold ET
 rw [List.take_length]
 conv => lhs; rw [<- List.take_append_drop j (AA s)]
 simp only [List.map_append, List.filter_append, List.append_assoc, List.cons_append]
 rw [List.take_append_drop]
theorem CGC {α : Type} {f : α -> Bool} {p : List α} {x : α} {r : List α} (h : ∀ y ∈ p, f y = false) (hx : f x = true) : (p ++ x :: r).find? f = some x := by
 rw [List.find?_append, List.find?_eq_none.2 (λ y hy => by simp [h y hy])]
 simp [hx]
theorem ALP {s : List Gau} {p : List Ln} {x : Ln} {r : List Ln} (h : LN s = p ++ x :: r) (h1 : ∀ y ∈ p, JC s y = false) (hx : JC s x = true) (h0 : s.length ≠ 0) : BH s = (x, true) := by
 unfold BH; rw [if_neg h0, h, CGC h1 hx]
theorem CBQ {s : List Gau} (h : s.length = 0) : BH s = (AL ⟨0, 0⟩, true) := if_pos h
theorem BTZ {s : List Gau} (h : ∀ y ∈ LN s, JC s y = false) (h0 : s.length ≠ 0) : BH s = (default, false) := by
 unfold BH; rw [if_neg h0, List.find?_eq_none.2 (λ y hy => by simp [h y hy])]
theorem BPW : AG Try.prog AIR (C_line.spec UV) := JX C_line CCJ [] [] CFQ (λ _ => by kernel_rfl) (λ _ => AB kW (AB mY (AB RW AE))) (λ (s : List Gau) h => by
 show BVL s; rw [CET]; delta WW WQ wJ Mm AYV AYY AMA sM vJ oN Oy AEA yZ U1 AEG AEK HY Ai Qu zU B5 O1 O6 Pp z_line_24 Rr IC HX RE Tb Qi I0 P5 B9 ACB H9; simp only [CC, eq_self, implies_true, forall_const, if_true]
 obtain ⟨hn, hg⟩ : s.length < 1073741824 /\ ∀ g ∈ s, GY g := h
 have nil : ((s.length : Int) == 0) = true -> (0 <= (0 : Int) /\ (0 : Int) <= 2000) /\ (BH s).fst.a0 = (AL ⟨0, 0⟩).a0 /\ (BH s).fst.a1 = (AL ⟨0, 0⟩).a1 /\ (BH s).fst.b0 = (AL ⟨0, 0⟩).b0 /\ (BH s).fst.b1 = (AL ⟨0, 0⟩).b1 /\ (BH s).snd = true := λ h => by
  rw [CBQ (by simpa using h)]; exact ⟨by omega, rfl, rfl, rfl, rfl, rfl⟩
 have ok : ∀ x, DS x -> s.length < 4611686018427387904 /\ ∀ g : Gau, List.Mem g s -> DS x /\ GY g := λ x hx => ⟨by omega, λ g hgs => ⟨hx, hg g hgs⟩⟩
 have he : (AA s).length <= 2 * s.length := by
  have := QR (s := s) s.length (Nat.le_refl _)
  unfold LE at this; rw [List.take_length] at this; exact this
 have e_ok : ∀ i, i < (AA s).length -> okP (gD (AA s) i) := λ i hi => UX hg (BZ hi)
 refine ⟨by omega, ⟨0, rfl, Nat.zero_le _, λ x hx => by cases hx⟩, λ i ⟨hi, hp⟩ => ⟨λ hlt => ?_, λ hge => ?_⟩⟩
 ·have hlt : i < (AA s).length := by omega
  obtain ⟨r0, hr0⟩ := CBT (s := s) (j := 0) hlt
  have hpe : ET s i 0 = PK s i ++ [AL (gD (AA s) i)] := by unfold ET; simp
  have hr0' : LN s = PK s i ++ AL (gD (AA s) i) :: r0 := by rw [hr0, hpe]; simp
  refine ⟨⟨by omega, by omega⟩, ⟨(e_ok i hlt).1, (e_ok i hlt).2.1⟩, ok _ (VS (e_ok i hlt)), λ hpa => ⟨nil, λ h0 => ?_⟩, λ hpa => ⟨⟨⟨i, 0⟩, ⟨rfl, rfl, rfl, rfl⟩, hlt, Nat.zero_le _, rfl, λ y hy => ?_⟩, λ x ⟨hx1, hx2, hx3, hx4⟩ => ⟨λ hj => ?_, λ hj => ?_⟩⟩⟩
  ·rw [ALP hr0' hp hpa (by simpa using h0)]; exact ⟨rfl, rfl, rfl, rfl, rfl⟩
  ·have hy : y ∈ PK s i ++ [AL (gD (AA s) i)] := hpe ▸ hy
   rcases List.mem_append.1 hy with hy | hy
   ·exact hp y hy
   ·rw [List.mem_singleton.1 hy]; exact hpa
  ·have hj : x.j < (AA s).length := by omega
   have step : (∀ y ∈ ET s x.i (x.j + 1), JC s y = false) -> ∃ z : IJ, ((z.j : Int) = IntKind.i64.wrap ((x.j : Int) + 1) /\ (z.i : Int) = x.i /\ (gD (AA s) z.i).st = (gD (AA s) x.i).st /\ (gD (AA s) z.i).fl = (gD (AA s) x.i).fl) /\ (z.i < (AA s).length /\ z.j <= (AA s).length /\ (AA s).length - z.i = (AA s).length - i /\ ∀ y : Ln, List.Mem y (ET s z.i z.j) -> JC s y = false) /\ (AA s).length - z.j < (AA s).length - x.j := λ h =>
    ⟨⟨x.i, x.j + 1⟩, ⟨(CA (by omega)).symm, rfl, rfl, rfl⟩, ⟨hx1, hj, hx3, h⟩, by show (AA s).length - (x.j + 1) < _; omega⟩
   refine ⟨⟨by omega, by omega⟩, λ hri => ⟨ok ⟨_, _, _, _⟩ (WA.1 hri), λ hpa => ⟨nil, λ h0 => ?_⟩, λ hpa => step λ y hy => ?_⟩, λ hri => step λ y hy => ?_⟩
   ·have hri' : Ar (Gu (gD (AA s) x.i) (gD (AA s) x.j)) = true := hri
    obtain ⟨r, hr⟩ := CBT (s := s) (j := x.j + 1) hx1
    rw [RC hj, if_pos hri', List.append_assoc] at hr
    rw [ALP hr hx4 hpa (by simpa using h0)]; exact ⟨rfl, rfl, rfl, rfl, rfl⟩
   ·have hri' : Ar (Gu (gD (AA s) x.i) (gD (AA s) x.j)) = true := hri
    rw [RC hj, if_pos hri'] at hy
    rcases List.mem_append.1 hy with hy | hy
    ·exact hx4 y hy
    ·rw [List.mem_singleton.1 hy]; exact hpa
   ·have hri' : ¬ Ar (Gu (gD (AA s) x.i) (gD (AA s) x.j)) = true := by
     intro h; have h : Ar ⟨_, _, _, _⟩ = true := h; rw [hri] at h; cases h
    rw [RC hj, if_neg hri', List.append_nil] at hy
    exact hx4 y hy
  ·have hje : x.j = (AA s).length := by omega
   refine ⟨x.i + 1, (CA (by omega)).symm, ⟨by omega, λ y hy => ?_⟩, by omega⟩
   rw [<- Je hx1] at hy
   exact hx4 y (hje ▸ hy)
 ·have hie : i = (AA s).length := by omega
  rw [hie, Jt] at hp
  refine ⟨nil, λ h0 => ?_⟩
  rw [BTZ hp (by simpa using h0)]; exact ⟨rfl, rfl, rfl, rfl, rfl⟩) (λ s => BZZ HR (BZO s) rfl rfl (AB tA (AB RW (AB AZL AE))) Mt (by kernel_rfl) (by kernel_rfl)) _
end Go.Bal
