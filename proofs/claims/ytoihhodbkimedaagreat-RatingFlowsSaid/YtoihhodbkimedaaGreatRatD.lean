/- Package rating: a line that passes. -/
import Derived.Test.YtoihhodbkimedaaGreatRatC
set_option linter.unusedVariables false
set_option linter.unusedSimpArgs false
namespace Go.Bal
open Go Go.Sym Go.Proofs
def dGsK : List AVal -> Heap -> Option (List Gau × List (Nat × Nat) × List Nat) := JM
def C_through : Ctr := { α := List Gau, xs := λ s => [.d (AS s)], L := λ _ => [], val := λ s => .fn (.func HX) [] [.bptr 0 0], keep := λ s => [(0, .live (.box [.d (AS s)]))] }
def BBD (s : List Gau) : Prop := AN Try.prog (ann 4 []) AEP (AF AEP) (C_through.xs s) (AC []) (C_through.val s) (C_through.keep s) [(0, 1000)] []
theorem BSB (s : List Gau) : (BBD s) = (s.length = s.length /\ ∀ (i : Nat), i < s.length -> (gD s i).st = (gD s i).st /\ (gD s i).lo = (gD s i).lo /\ (gD s i).hi = (gD s i).hi) := by kernel_rfl
theorem iY : AG Try.prog Vk (C_through.spec dGsK) := HR C_through (λ _ => ann 4 []) [(0, 1000)] [] BPV (λ _ => by kernel_rfl) (λ _ => AD) (λ (s : List Gau) _ => by
 show BBD s; rw [BSB]; simp) (λ _ => IN rfl rfl) _
structure GsL where
 s : List Gau
 x : Ln
def dGsL : List AVal -> Heap -> Option (GsL × List (Nat × Nat) × List Nat)
 | [y, .d x], H => match Bc y H with
  | some (l, f) => some (⟨l, dLn x⟩, [], f)
  | none => none
 | _, _ => none
def C_passing : Ctr := { α := GsL, xs := λ a => [.d (AS a.s), .d (eLn a.x)], L := λ _ => [], val := λ a => .bool (a.s.all λ g => BJ a.x g), keep := λ _ => [], pre := λ a => [a.s.length < 4611686018427387904 /\ (∀ g ∈ a.s, (DR a.x /\ DJ g))] }
def BCP : Ann := ann 9 [(n_eG, C4Gp.spec d4Gp)]
def BCK (a : GsL) : Prop := AN Try.prog BCP C1 (AF C1) (C_passing.xs a) (AC []) (C_passing.val a) [] [] []
theorem BQR (a : GsL) : (BCK a) = (((AE a.s.length λ (i : Nat) => gD a.s i).length = a.s.length /\ (∀ (i : Nat), i < (AE a.s.length λ (i : Nat) => gD a.s i).length -> (gD (AE a.s.length λ (i : Nat) =>
 gD a.s i) i).st = (gD a.s i).st /\ (gD (AE a.s.length λ (i : Nat) => gD a.s i) i).lo = (gD a.s i).lo /\ (gD (AE a.s.length λ (i : Nat) => gD a.s i) i).hi = (gD a.s i).hi) /\ a.x.a0 = a.x.a0 /\ a.x.a1 = a.x.a1 /\ a.x.b0
 = a.x.b0 /\ a.x.b1 = a.x.b1 /\ (AE a.s.length λ (i : Nat) => gD a.s i).length < 4611686018427387904 /\ ∀ (x : Gau), List.Mem x (AE a.s.length λ (i : Nat) => gD a.s i) -> (0 <= a.x.a0 /\ a.x.a0 < a.x.b0 /\ a.x.b0 <= 2000 /\
 0 <= a.x.a1 /\ a.x.a1 <= a.x.b1 /\ a.x.b1 <= 200000) /\ 0 <= x.st /\ x.st <= 2000 /\ 0 <= x.lo /\ x.lo <= x.hi /\ x.hi <= 200000) /\ (a.s.all λ (g : Gau) => BJ a.x g) = (AE a.s.length λ (i : Nat) => gD a.s i).all λ (x : Gau)
 => BJ a.x x) := by kernel_rfl
theorem nW : AG Try.prog XU (C_passing.spec dGsL) := HR C_passing (λ _ => BCP) [] [] BRQ (λ _ => by kernel_rfl) (λ _ => AB CVY AD) (λ (a : GsL) h => by
 show BCK a; rw [BQR]; simp only [CC, eq_self, implies_true, forall_const]
 have h : a.s.length < 4611686018427387904 /\ (∀ g ∈ a.s, (DR a.x /\ DJ g)) := h
 first | exact h | exact ⟨h, rfl⟩) (λ _ => IN rfl rfl) _
def Iq (a b : Pt) : Ln := ⟨a.st, a.fl, b.st, b.fl⟩
def blk (e : List Pt) (a : Pt) : List Ln := AL a :: (e.map (Iq a)).filter SK
def LQ (s : List Gau) : List Ln := (AA s).flatMap (blk (AA s))
def JO (s : List Gau) (x : Ln) : Bool := s.all λ g => BJ x g
def BG (s : List Gau) : Ln × Bool := if s.length = 0 then (AL ⟨0, 0⟩, true) else match (LQ s).find? (JO s) with
 | some x => (x, true)
 | none => (default, false)
def zLn : HCell := .live (.box [.int 0, .int 0, .int 0, .int 0])
def lnH (s : List Gau) : List (Nat × HCell) := [(1000, zLn), (2000, zLn), (3000, .live (.box [.bool false])), (4032, .live (.box [.fn (.func XU) [.d (AS s)] []]))]
def lnS (s : List Gau) (l i : Nat) : List (Nat × AVal) := [(0, .fn (.yield l) [] []), (3, .d (ePts (AA s))), (11, .d (ePts (AA s))), (12, .int (AA s).length), (13, .int i)]
def PW (s : List Gau) (i : Nat) : List Ln := ((AA s).take i).flatMap (blk (AA s))
def EZ (s : List Gau) (i j : Nat) : List Ln := PW s i ++ AL (gD (AA s) i) :: (((AA s).take j).map (Iq (gD (AA s) i))).filter SK
def lnO (s : List Gau) (l : Nat) : Shape := { α := Nat, dflt := 0, T := λ i => ⟨lnS s l i, lnH s⟩, inv := λ i => i <= (AA s).length /\ ∀ x ∈ PW s i, JO s x = false, meas := λ i => (AA s).length - i }
def lnI (s : List Gau) (q l : Nat) : Shape := { α := IJ, dflt := default, T := λ x => ⟨[(5, .bptr 205 0), (22, .d (ePts (AA s))), (23, .int (AA s).length), (24, .int x.j)] ++ lnS s l x.i, (205, .live (.box [.int (gD (AA s) x.i).st, .int (gD (AA s) x.i).fl])) :: lnH s⟩, inv := λ x => x.i < (AA s).length /\ x.j <= (AA s).length /\ (AA s).length - x.i = q /\ ∀ y ∈ EZ s x.i x.j, JO s y = false, meas := λ x => (AA s).length - x.j, first := [(205, 104032)] }
noncomputable def CGC (s : List Gau) : IterAnn := { fn := TV, code := AF TV, live := [0, 2, 4, 5, 6], ann := { base := λ id => 100000 + 1000 * (id + 1), Γ := Sym.look [(BAD, C_ends.spec JM), (Fc, Ve), (BOF, BUH)], E := [1000, 2000, 3000, 4032], n := 41, inner := λ gs id => if id = 2 then some [lnO s (gs.getD 0 0)] else if id = 6 then some [lnI s (gs.getD 0 0) (gs.getD 1 0)] else none } }
noncomputable def CIH (s : List Gau) : Ann := { ann 24 [(Vk, C_through.spec dGsK), (XU, C_passing.spec dGsL), (Fc, Ve)] with iter := λ g => if g = HX then some (CGC s) else none }
def C_line : Ctr := { α := List Gau, xs := λ s => [.d (AS s)], L := λ _ => [], val := λ s => .tup [.d (eLn (BG s).1), .bool (BG s).2], keep := λ _ => [], pre := λ s => [s.length < 1073741824 /\ ∀ g ∈ s, DJ g] }
def CIF (s : List Gau) : Prop := AN Try.prog (CIH s) BRC (AF BRC) (C_line.xs s) (AC []) (C_line.val s) [] [] []
abbrev Aw (s : List Gau) : List Gau := AE s.length λ (i : Nat) => gD s i
abbrev WR (s : List Gau) : Nat := (Aw s).length
abbrev vA (s : List Gau) : Prop := WR s = s.length
abbrev Ot (s : List Gau) (i : Nat) : Gau := gD (Aw s) i
abbrev APV (s : List Gau) (i : Nat) : Int := (Ot s i).st
abbrev ANT (s : List Gau) (i : Nat) : Int := (Ot s i).lo
abbrev AXP (s : List Gau) (i : Nat) : Int := (Ot s i).hi
abbrev wP (s : List Gau) : Prop := ∀ (i : Nat), i < WR s -> APV s i = (gD s i).st /\ ANT s i = (gD s i).lo /\ AXP s i = (gD s i).hi
abbrev uV (s : List Gau) : List Gau := AE (WR s) λ (i : Nat) => Ot s i
abbrev xE (s : List Gau) : Nat := (uV s).length
abbrev Ul (s : List Gau) (i : Nat) : Gau := gD (uV s) i
abbrev zX (s : List Gau) : List Pt := AA (uV s)
abbrev ADE (s : List Gau) : Nat := (zX s).length
abbrev E8 (s : List Gau) : Prop := (AA s).length = ADE s
abbrev K7 (s : List Gau) (i : Nat) : Pt := gD (zX s) i
abbrev ADA (s : List Gau) : Prop := ∀ (i : Nat), i < (AA s).length -> (gD (AA s) i).st = (K7 s i).st /\ (gD (AA s) i).fl = (K7 s i).fl
abbrev IM : Prop := Int.ofNat (0 : Nat) = Int.ofNat (0 : Nat)
abbrev Bn (s : List Gau) : Prop := IM /\ IM /\ IM /\ IM /\ IM /\ IM /\ IM /\ IM /\ false = false /\ s.length = s.length /\ ∀ (i : Nat), i < s.length -> (gD s i).st =
 (gD s i).st /\ (gD s i).lo = (gD s i).lo /\ (gD s i).hi = (gD s i).hi
abbrev Rz (a : Nat) (s : List Gau) : Prop := a <= (AA s).length /\ ∀ (x : Ln), List.Mem x (PW s a) -> JO s x = false
abbrev O4 (a : Nat) (s : List Gau) : Prop := (↑a : Int) < (↑(AA s).length : Int)
abbrev R2 (s : List Gau) : Prop := WR s < (4611686018427387904 : Nat)
abbrev yQ (g : Gau) (s : List Gau) : Prop := List.Mem g (Aw s)
abbrev B8 (g : Gau) : Prop := (0 : Int) <= g.st /\ g.st <= (2000 : Int) /\ (0 : Int) <= g.lo /\ g.lo <= g.hi /\ g.hi <= (200000 : Int)
abbrev Sw (s : List Gau) : Bool := (↑s.length : Int) == (0 : Int)
abbrev z_line_24 : Ln := AL (Pt.mk (0 : Int) (0 : Int))
abbrev Vh (s : List Gau) : Prop := ((0 : Int) <= (0 : Int) /\ (0 : Int) <= (2000 : Int)) /\ (BG s).fst.a0 = z_line_24.a0 /\ (BG s).fst.a1 = z_line_24.a1 /\ (BG s).fst.b0 = z_line_24.b0 /\ (BG s).fst.b1 =
 z_line_24.b1 /\ (BG s).snd = true
abbrev IW (s : List Gau) : Prop := (AA s).length = (AA s).length
abbrev IP (s : List Gau) : Prop := ∀ (i : Nat), i < (AA s).length -> (gD (AA s) i).st = (gD (AA s) i).st /\ (gD (AA s) i).fl = (gD (AA s) i).fl
abbrev RE (s : List Gau) : Prop := (↑(AA s).length : Int) = (↑(AA s).length : Int)
abbrev Vy (s : List Gau) (a : Nat) : Nat := (AA s).length - a
abbrev Wm (a : IJ) (s : List Gau) (a1 : Nat) : Prop := a.i < (AA s).length /\ a.j <= (AA s).length /\ (AA s).length - a.i = Vy s a1 /\ ∀ (y : Ln), List.Mem y (EZ s a.i a.j) -> JO s y = false
abbrev yA (a : IJ) (s : List Gau) : Prop := (↑a.j : Int) < (↑(AA s).length : Int)
abbrev U0 (s : List Gau) (a : IJ) : Ln := Ln.mk (gD (AA s) a.i).st (gD (AA s) a.i).fl (gD (AA s) a.j).st (gD (AA s) a.j).fl
abbrev AEF (s : List Gau) (a : IJ) : Bool := SK (U0 s a)
abbrev AFA (s : List Gau) (a : IJ) : Nat := (AA s).length - a.j
abbrev Y8 (s : List Gau) (a : IJ) (l : Nat) (a1 : Nat) : Prop := ∃ (a_1 : IJ), (IW s /\ IP s /\ RE s /\ (↑a_1.j : Int) = IntKind.i64.wrap ((↑a.j : Int) + (1 : Int)) /\ Fn.yield l = Fn.yield l /\
 IW s /\ IP s /\ IW s /\ IP s /\ RE s /\ (↑a_1.i : Int) = (↑a.i : Int) /\ (gD (AA s) a_1.i).st = (gD (AA s) a.i).st /\ (gD (AA s) a_1.i).fl = (gD (AA s) a.i).fl /\ Bn s) /\
 Wm a_1 s a1 /\ AFA s a_1 < AFA s a
theorem CKP (s : List Gau) : (CIF s) = ((vA s /\ wP s) /\ ∀ (l : Nat), (xE s = WR s /\ (∀ (i : Nat), i < xE s -> (Ul s i).st = APV s i /\ (Ul s i).lo = ANT s i /\
 (Ul s i).hi = AXP s i) /\ xE s < (1073741824 : Nat) /\ True) /\ (∃ (a : Nat), (Fn.yield l = Fn.yield l /\ E8 s /\ ADA s /\ E8 s /\ ADA s /\ (↑(AA s).length : Int) = (↑(ADE s)
 : Int) /\ (↑a : Int) = (0 : Int) /\ Bn s) /\ Rz a s) /\ ∀ (a : Nat), Rz a s -> bif decide (O4 a s) then ((0 : Int) <= (↑a : Int) /\ O4 a s) /\ ((0 : Int) <= (gD (AA s) a).st /\ (gD (AA s)
 a).st <= (2000 : Int)) /\ l = l /\ (vA s /\ wP s /\ (AL (gD (AA s) a)).a0 = (AL (gD (AA s) a)).a0 /\ (AL (gD (AA s) a)).a1 = (AL (gD (AA s) a)).a1 /\ (AL (gD (AA s) a)).b0 = (AL (gD (AA
 s) a)).b0 /\ (AL (gD (AA s) a)).b1 = (AL (gD (AA s) a)).b1 /\ R2 s /\ ∀ (g : Gau), yQ g s -> ((0 : Int) <= (AL (gD (AA s) a)).a0 /\ (AL (gD (AA s) a)).a0 < (AL (gD (AA s) a)).b0 /\ (AL
 (gD (AA s) a)).b0 <= (2000 : Int) /\ (0 : Int) <= (AL (gD (AA s) a)).a1 /\ (AL (gD (AA s) a)).a1 <= (AL (gD (AA s) a)).b1 /\ (AL (gD (AA s) a)).b1 <= (200000 : Int)) /\ B8 g) /\ bif (Aw s).all
 λ (g : Gau) => BJ (AL (gD (AA s) a)) g then bif Sw s then Vh s else (BG s).fst.a0 = (AL (gD (AA s) a)).a0 /\ (BG s).fst.a1 = (AL (gD (AA s) a)).a1 /\ (BG s).fst.b0 = (AL (gD
 (AA s) a)).b0 /\ (BG s).fst.b1 = (AL (gD (AA s) a)).b1 /\ (BG s).snd = true else (∃ (a_2 : IJ), (IW s /\ IP s /\ RE s /\ (↑a_2.j : Int) = (0 : Int) /\ Fn.yield l = Fn.yield l /\ IW s /\
 IP s /\ IW s /\ IP s /\ RE s /\ (↑a_2.i : Int) = (↑a : Int) /\ (gD (AA s) a_2.i).st = (gD (AA s) a).st /\ (gD (AA s) a_2.i).fl = (gD (AA s) a).fl /\ Bn s) /\ Wm a_2 s a) /\ ∀
 (a_2 : IJ), Wm a_2 s a -> bif decide (yA a_2 s) then ((0 : Int) <= (↑a_2.j : Int) /\ yA a_2 s) /\ bif if true = true then AEF s a_2 else !AEF s a_2 then l = l /\ (vA s /\ wP s /\ (gD
 (AA s) a_2.i).st = (gD (AA s) a_2.i).st /\ (gD (AA s) a_2.i).fl = (gD (AA s) a_2.i).fl /\ (gD (AA s) a_2.j).st = (gD (AA s) a_2.j).st /\ (gD (AA s) a_2.j).fl = (gD (AA s) a_2.j).fl /\ R2 s /\ ∀
 (g : Gau), yQ g s -> ((0 : Int) <= (gD (AA s) a_2.i).st /\ (gD (AA s) a_2.i).st < (gD (AA s) a_2.j).st /\ (gD (AA s) a_2.j).st <= (2000 : Int) /\ (0 : Int) <= (gD (AA s) a_2.i).fl /\ (gD (AA s) a_2.i).fl
 <= (gD (AA s) a_2.j).fl /\ (gD (AA s) a_2.j).fl <= (200000 : Int)) /\ B8 g) /\ bif (Aw s).all λ (g : Gau) => BJ (U0 s a_2) g then bif Sw s then Vh s else (BG s).fst.a0 = (gD
 (AA s) a_2.i).st /\ (BG s).fst.a1 = (gD (AA s) a_2.i).fl /\ (BG s).fst.b0 = (gD (AA s) a_2.j).st /\ (BG s).fst.b1 = (gD (AA s) a_2.j).fl /\ (BG s).snd = true else Y8 s a_2 l a else Y8 s
 a_2 l a else ∃ (a_4 : Nat), (Fn.yield l = Fn.yield l /\ IW s /\ IP s /\ IW s /\ IP s /\ RE s /\ (↑a_4 : Int) = IntKind.i64.wrap ((↑a_2.i : Int) + (1 : Int)) /\ Bn s) /\ Rz a_4 s /\
 Vy s a_4 < Vy s a else bif Sw s then Vh s else (BG s).fst.a0 = (0 : Int) /\ (BG s).fst.a1 = (0 : Int) /\ (BG s).fst.b0 = (0 : Int) /\ (BG s).fst.b1 = (0 : Int) /\ (BG s).snd =
 false) := by kernel_rfl
def okP (p : Pt) : Prop := 0 <= p.st /\ p.st <= 2000 /\ 0 <= p.fl /\ p.fl <= 200000
theorem CEF {l : List Pt} {p q : Pt} : q ∈ addP l p ↔ q ∈ l ∨ q = p := by
 unfold addP; split
 ·rename_i h
  exact ⟨.inl, λ h2 => h2.elim id λ h2 => h2 ▸ h⟩
 ·simp
theorem BBB : ∀ (s : List Gau) (l : List Pt) (p : Pt), p ∈ s.foldl addG l ↔ p ∈ l ∨ ∃ g ∈ s, p = ⟨g.st, g.lo⟩ ∨ p = ⟨g.st, g.hi⟩
 | [], l, p => by simp
 | g :: s, l, p => by
  rw [List.foldl_cons, BBB s]
  simp only [addG, CEF, List.mem_cons, exists_eq_or_imp]
  constructor
  ·rintro (((h | h) | h) | h)
   ·exact .inl h
   ·exact .inr (.inl (.inl h))
   ·exact .inr (.inl (.inr h))
   ·exact .inr (.inr h)
  ·rintro (h | (h | h) | h)
   ·exact .inl (.inl (.inl h))
   ·exact .inl (.inl (.inr h))
   ·exact .inl (.inr h)
   ·exact .inr h
theorem AWH {s : List Gau} {p : Pt} : p ∈ AA s ↔ ∃ g ∈ s, p = ⟨g.st, g.lo⟩ ∨ p = ⟨g.st, g.hi⟩ := by
 unfold AA; rw [BBB]; simp
theorem VZ {s : List Gau} (h : ∀ g ∈ s, DJ g) {p : Pt} (hp : p ∈ AA s) : okP p := by
 obtain ⟨g, hg, rfl | rfl⟩ := AWH.1 hp
 ·obtain ⟨h1, h2, h3, h4, h5⟩ := h g hg; exact ⟨h1, h2, h3, by show g.lo <= _; omega⟩
 ·obtain ⟨h1, h2, h3, h4, h5⟩ := h g hg; exact ⟨h1, h2, by show 0 <= g.hi; omega, h5⟩
theorem Da {p : Pt} (h : okP p) : DR (AL p) := by
 obtain ⟨h1, h2, h3, h4⟩ := h
 unfold AL; split
 ·exact ⟨by show 0 <= p.st - 1; omega, by show p.st - 1 < p.st; omega, h2, h3, Int.le_refl _, h4⟩
 ·exact ⟨h1, by show p.st < p.st + 1; omega, by show p.st + 1 <= 2000; omega, h3, Int.le_refl _, h4⟩
theorem Fu {x : Ln} : SK x = true ↔ DR x := by
 unfold SK riP BY DR
 simp only [Bool.and_eq_true, decide_eq_true_eq]
 constructor
 ·intro h; exact ⟨by omega, by omega, by omega, by omega, by omega, by omega⟩
 ·intro h; exact ⟨⟨⟨⟨⟨by omega, by omega⟩, by omega, by omega⟩, ⟨by omega, by omega⟩, by omega, by omega⟩, by omega⟩, by omega⟩
theorem BYN {s : List Gau} {i : Nat} (h : i < (AA s).length) : PW s (i + 1) = PW s i ++ blk (AA s) (gD (AA s) i) := by
 unfold PW; rw [DF h, List.flatMap_append]; simp
theorem Nl {s : List Gau} : PW s (AA s).length = LQ s := by unfold PW LQ; rw [List.take_length]
theorem Qh {s : List Gau} {i : Nat} (h : i < (AA s).length) : EZ s i (AA s).length = PW s (i + 1) := by
 rw [BYN h]; unfold EZ blk; rw [List.take_length]
theorem RT {s : List Gau} {i j : Nat} (h : j < (AA s).length) : EZ s i (j + 1) = EZ s i j ++ (if SK (Iq (gD (AA s) i) (gD (AA s) j)) then [Iq (gD (AA s) i) (gD (AA s) j)] else []) := by
 unfold EZ
 rw [DF h, List.map_append, List.filter_append, <- List.cons_append, <- List.append_assoc]
 simp only [List.map_cons, List.map_nil]
 congr 1
 split
 ·rename_i h1; rw [List.filter_cons_of_pos h1]; rfl
 ·rename_i h1; rw [List.filter_cons_of_neg h1]; rfl
theorem CSR {s : List Gau} : ∀ {i : Nat}, ∃ r, LQ s = PW s i ++ r := λ {i} => by
 refine ⟨((AA s).drop i).flatMap (blk (AA s)), ?_⟩
 unfold LQ PW
 rw [<- List.flatMap_append, List.take_append_drop]
theorem CDB {s : List Gau} {i j : Nat} (h : i < (AA s).length) : ∃ r, LQ s = EZ s i j ++ r := by
 obtain ⟨r, hr⟩ := CSR (s := s) (i := i + 1)
 rw [hr, <- Qh h]
 refine ⟨(((AA s).drop j).map (Iq (gD (AA s) i))).filter SK ++ r, ?_⟩
 unfold EZ
 rw [List.take_length]
 conv => lhs; rw [<- List.take_append_drop j (AA s)]
 simp only [List.map_append, List.filter_append, List.append_assoc, List.cons_append]
 rw [List.take_append_drop]
theorem CKJ {α : Type} {f : α -> Bool} {p : List α} {x : α} {r : List α} (h : ∀ y ∈ p, f y = false) (hx : f x = true) : (p ++ x :: r).find? f = some x := by
 rw [List.find?_append, List.find?_eq_none.2 (λ y hy => by simp [h y hy])]
 simp [hx]
theorem APJ {s : List Gau} {p : List Ln} {x : Ln} {r : List Ln} (h : LQ s = p ++ x :: r) (h1 : ∀ y ∈ p, JO s y = false) (hx : JO s x = true) (h0 : s.length ≠ 0) : BG s = (x, true) := by
 unfold BG; rw [if_neg h0, h, CKJ h1 hx]
theorem CBY {s : List Gau} (h : s.length = 0) : BG s = (AL ⟨0, 0⟩, true) := if_pos h
theorem BYP {s : List Gau} (h : ∀ y ∈ LQ s, JO s y = false) (h0 : s.length ≠ 0) : BG s = (default, false) := by
 unfold BG; rw [if_neg h0, List.find?_eq_none.2 (λ y hy => by simp [h y hy])]
theorem BWU : AG Try.prog AKJ (C_line.spec JM) := HR C_line CIH [] [] CMH (λ _ => by kernel_rfl) (λ _ => AB iY (AB nW (AB TU AD))) (λ (s : List Gau) h => by
 show CIF s; rw [CKP]; delta Aw WR vA Ot APV ANT AXP wP uV xE Ul zX ADE E8 K7 ADA IM Bn Rz O4 R2 yQ B8 Sw z_line_24 Vh IW IP RE Vy Wm yA U0 AEF AFA Y8; simp only [CC, eq_self, implies_true, forall_const, if_true]
 obtain ⟨hn, hg⟩ : s.length < 1073741824 /\ ∀ g ∈ s, DJ g := h
 have nil : ((s.length : Int) == 0) = true -> (0 <= (0 : Int) /\ (0 : Int) <= 2000) /\ (BG s).fst.a0 = (AL ⟨0, 0⟩).a0 /\ (BG s).fst.a1 = (AL ⟨0, 0⟩).a1 /\ (BG s).fst.b0 = (AL ⟨0, 0⟩).b0 /\ (BG s).fst.b1 = (AL ⟨0, 0⟩).b1 /\ (BG s).snd = true := λ h => by
  rw [CBY (by simpa using h)]; exact ⟨by omega, rfl, rfl, rfl, rfl, rfl⟩
 have ok : ∀ x, DR x -> s.length < 4611686018427387904 /\ ∀ g : Gau, List.Mem g s -> DR x /\ DJ g := λ x hx => ⟨by omega, λ g hgs => ⟨hx, hg g hgs⟩⟩
 have he : (AA s).length <= 2 * s.length := by
  have := QW (s := s) s.length (Nat.le_refl _)
  unfold LO at this; rw [List.take_length] at this; exact this
 have e_ok : ∀ i, i < (AA s).length -> okP (gD (AA s) i) := λ i hi => VZ hg (BM hi)
 refine ⟨by omega, ⟨0, rfl, Nat.zero_le _, λ x hx => by cases hx⟩, λ i ⟨hi, hp⟩ => ⟨λ hlt => ?_, λ hge => ?_⟩⟩
 ·have hlt : i < (AA s).length := by omega
  obtain ⟨r0, hr0⟩ := CDB (s := s) (j := 0) hlt
  have hpe : EZ s i 0 = PW s i ++ [AL (gD (AA s) i)] := by unfold EZ; simp
  have hr0' : LQ s = PW s i ++ AL (gD (AA s) i) :: r0 := by rw [hr0, hpe]; simp
  refine ⟨⟨by omega, by omega⟩, ⟨(e_ok i hlt).1, (e_ok i hlt).2.1⟩, ok _ (Da (e_ok i hlt)), λ hpa => ⟨nil, λ h0 => ?_⟩, λ hpa => ⟨⟨⟨i, 0⟩, ⟨rfl, rfl, rfl, rfl⟩, hlt, Nat.zero_le _, rfl, λ y hy => ?_⟩, λ x ⟨hx1, hx2, hx3, hx4⟩ => ⟨λ hj => ?_, λ hj => ?_⟩⟩⟩
  ·rw [APJ hr0' hp hpa (by simpa using h0)]; exact ⟨rfl, rfl, rfl, rfl, rfl⟩
  ·have hy : y ∈ PW s i ++ [AL (gD (AA s) i)] := hpe ▸ hy
   rcases List.mem_append.1 hy with hy | hy
   ·exact hp y hy
   ·rw [List.mem_singleton.1 hy]; exact hpa
  ·have hj : x.j < (AA s).length := by omega
   have step : (∀ y ∈ EZ s x.i (x.j + 1), JO s y = false) -> ∃ z : IJ, ((z.j : Int) = IntKind.i64.wrap ((x.j : Int) + 1) /\ (z.i : Int) = x.i /\ (gD (AA s) z.i).st = (gD (AA s) x.i).st /\ (gD (AA s) z.i).fl = (gD (AA s) x.i).fl) /\ (z.i < (AA s).length /\ z.j <= (AA s).length /\ (AA s).length - z.i = (AA s).length - i /\ ∀ y : Ln, List.Mem y (EZ s z.i z.j) -> JO s y = false) /\ (AA s).length - z.j < (AA s).length - x.j := λ h =>
    ⟨⟨x.i, x.j + 1⟩, ⟨(BF (by omega)).symm, rfl, rfl, rfl⟩, ⟨hx1, hj, hx3, h⟩, by show (AA s).length - (x.j + 1) < _; omega⟩
   refine ⟨⟨by omega, by omega⟩, λ hri => ⟨ok ⟨_, _, _, _⟩ (Fu.1 hri), λ hpa => ⟨nil, λ h0 => ?_⟩, λ hpa => step λ y hy => ?_⟩, λ hri => step λ y hy => ?_⟩
   ·have hri' : SK (Iq (gD (AA s) x.i) (gD (AA s) x.j)) = true := hri
    obtain ⟨r, hr⟩ := CDB (s := s) (j := x.j + 1) hx1
    rw [RT hj, if_pos hri', List.append_assoc] at hr
    rw [APJ hr hx4 hpa (by simpa using h0)]; exact ⟨rfl, rfl, rfl, rfl, rfl⟩
   ·have hri' : SK (Iq (gD (AA s) x.i) (gD (AA s) x.j)) = true := hri
    rw [RT hj, if_pos hri'] at hy
    rcases List.mem_append.1 hy with hy | hy
    ·exact hx4 y hy
    ·rw [List.mem_singleton.1 hy]; exact hpa
   ·have hri' : ¬ SK (Iq (gD (AA s) x.i) (gD (AA s) x.j)) = true := by
     intro h; have h : SK ⟨_, _, _, _⟩ = true := h; rw [hri] at h; cases h
    rw [RT hj, if_neg hri', List.append_nil] at hy
    exact hx4 y hy
  ·have hje : x.j = (AA s).length := by omega
   refine ⟨x.i + 1, (BF (by omega)).symm, ⟨by omega, λ y hy => ?_⟩, by omega⟩
   rw [<- Qh hx1] at hy
   exact hx4 y (hje ▸ hy)
 ·have hie : i = (AA s).length := by omega
  rw [hie, Nl] at hp
  refine ⟨nil, λ h0 => ?_⟩
  rw [BYP hp (by simpa using h0)]; exact ⟨rfl, rfl, rfl, rfl, rfl⟩) (λ s => CID HX (CGC s) rfl rfl (AB qA (AB TU (AB BAK AD))) Pm (by kernel_rfl) (by kernel_rfl)) _
end Go.Bal
