/- Package rating: a line that passes. -/
import Derived.Test.YtoihhodbkimedaaRatC
set_option linter.unusedVariables false
set_option linter.unusedSimpArgs false
namespace Go.Bal
open Go Go.Sym Go.Proofs
def dGsK : List AVal -> Heap -> Option (List Gau × List (Nat × Nat) × List Nat) := Ch
def C_through : Ctr := { α := List Gau, xs := λ s => [.d (DX s)], L := λ _ => [], val := λ s => .fn (.func ZW) [] [.bptr 0 0], keep := λ s => [(0, .live (.box [.d (DX s)]))] }
def ATG (s : List Gau) : Prop := CH Try.prog (ann 4 []) AGC (AI AGC) (C_through.xs s) (AD []) (C_through.val s) (C_through.keep s) [(0, 1000)] []
theorem BCX (s : List Gau) : (ATG s) = (EP (AS s) (λ i=>HD i s)) := by kernel_rfl
theorem J0 : AL Try.prog uM (C_through.spec dGsK) := Ih C_through (λ _ => ann 4 []) [(0, 1000)] [] BFD (λ _ => by kernel_rfl) (λ _ => AF) (λ (s : List Gau) _ => by
 show ATG s; rw [BCX]<;> delta GH HK FK AO AT AG CG CM DM GP AE AP AK BO AX BH CY BN CL EP AS MK HD; simp) (λ _ => Jf rfl rfl) _
structure GsL where
 s : List Gau
 x : Ln
def dGsL : List AVal -> Heap -> Option (GsL × List (Nat × Nat) × List Nat)
 | [y, .d x], H => match tL y H with
  | some (l, f) => some (⟨l, dLn x⟩, [], f)
  | none => none
 | _, _ => none
def C_passing : Ctr := { α := GsL, xs := λ a => [.d (DX a.s), .d (eLn a.x)], L := λ _ => [], val := λ a => .bool (a.s.all λ g => KI a.x g), keep := λ _ => [], pre := λ a => [a.s.length < 4611686018427387904 /\ (∀ g ∈ a.s, (NJ a.x /\ XH g))] }
def ASX : Ann := ann 9 [(n_eG, C4Gp.spec d4Gp)]
def ASO (a : GsL) : Prop := CH Try.prog ASX AFH (AI AFH) (C_passing.xs a) (AD []) (C_passing.val a) [] [] []
abbrev AJF:=GsL.s
abbrev X0:=GsL.x
attribute [go_sem] AJF X0
theorem BCV (a : GsL) : (ASO a) = (And (BI (BR (AJF a)) (BW (AJF a)) (Ur (X0 a)) (Vs (X0 a)) (Fv (X0 a)) (Zw (X0 a)) (Av (AJF a)) (XV (λ i=>CG (XJ i (AU (AJF a))) (AY (NP (X0 a)) (LA i) (LO i) (MS i) (MU i) (DW (FK i) 200000))))) (KY (AJN (AJF a) (λ i=>KI (X0 a) i)) (AJN (AU (AJF a)) (λ i=>KI (X0 a) i)))) := by kernel_rfl
theorem N8 : AL Try.prog gS (C_passing.spec dGsL) := Ih C_passing (λ _ => ASX) [] [] BDX (λ _ => by kernel_rfl) (λ _ => AB CGD AF) (λ (a : GsL) h => by
 show ASO a; rw [BCV]<;> delta KY GH HK FK KZ KR LU MC AO AT AG CG CM DW DT DM GP XV XJ AJN AJF X0 AE AJ AP AU AK AX AH BH CY BN CL CA IG CQ DF DG EN AW AY DE DN EO DY LI EU FE DV FG JN Vs MN FB Ur BE Zw LO BI MS BW Fv LA BR MU FW Av NP; simp only [CC, eq_self, implies_true, forall_const]
 have h : a.s.length < 4611686018427387904 /\ (∀ g ∈ a.s, (NJ a.x /\ XH g)) := h
 first | exact h | exact ⟨h, rfl⟩) (λ _ => Jf rfl rfl) _
def nZ (a b : Pt) : Ln := ⟨a.st, a.fl, b.st, b.fl⟩
def blk (e : List Pt) (a : Pt) : List Ln := BP a :: (e.map (nZ a)).filter jT
def Lu (s : List Gau) : List Ln := (AA s).flatMap (blk (AA s))
def Fd (s : List Gau) (x : Ln) : Bool := s.all λ g => KI x g
def CS (s : List Gau) : Ln × Bool := if s.length = 0 then (BP ⟨0, 0⟩, true) else match (Lu s).find? (Fd s) with
 | some x => (x, true)
 | none => (default, false)
def zLn : HCell := .live (.box [.int 0, .int 0, .int 0, .int 0])
def lnH (s : List Gau) : List (Nat × HCell) := [(1000, zLn), (2000, zLn), (3000, .live (.box [.bool false])), (4032, .live (.box [.fn (.func gS) [.d (DX s)] []]))]
def lnS (s : List Gau) (l i : Nat) : List (Nat × AVal) := [(0, .fn (.yield l) [] []), (3, .d (ePts (AA s))), (11, .d (ePts (AA s))), (12, .int (AA s).length), (13, .int i)]
def Rs (s : List Gau) (i : Nat) : List Ln := ((AA s).take i).flatMap (blk (AA s))
def QX (s : List Gau) (i j : Nat) : List Ln := Rs s i ++ BP (gD (AA s) i) :: (((AA s).take j).map (nZ (gD (AA s) i))).filter jT
def lnO (s : List Gau) (l : Nat) : Shape := { α := Nat, dflt := 0, T := λ i => ⟨lnS s l i, lnH s⟩, inv := λ i => i <= (AA s).length /\ ∀ x ∈ Rs s i, Fd s x = false, meas := λ i => (AA s).length - i }
def lnI (s : List Gau) (q l : Nat) : Shape := { α := IJ, dflt := default, T := λ x => ⟨[(5, .bptr 205 0), (22, .d (ePts (AA s))), (23, .int (AA s).length), (24, .int x.j)] ++ lnS s l x.i, (205, .live (.box [.int (gD (AA s) x.i).st, .int (gD (AA s) x.i).fl])) :: lnH s⟩, inv := λ x => x.i < (AA s).length /\ x.j <= (AA s).length /\ (AA s).length - x.i = q /\ ∀ y ∈ QX s x.i x.j, Fd s y = false, meas := λ x => (AA s).length - x.j, first := [(205, 104032)] }
noncomputable def BRG (s : List Gau) : IterAnn := { fn := Xv, code := AI Xv, live := [0, 2, 4, 5, 6], ann := { base := λ id => 100000 + 1000 * (id + 1), Γ := Sym.look [(ANP, C_ends.spec Ch), (oU, uP), (AZF, BHB)], E := [1000, 2000, 3000, 4032], n := 41, inner := λ gs id => if id = 2 then some [lnO s (gs.getD 0 0)] else if id = 6 then some [lnI s (gs.getD 0 0) (gs.getD 1 0)] else none } }
noncomputable def BNV (s : List Gau) : Ann := { ann 24 [(uM, C_through.spec dGsK), (gS, C_passing.spec dGsL), (oU, uP)] with iter := λ g => if g = ZW then some (BRG s) else none }
def C_line : Ctr := { α := List Gau, xs := λ s => [.d (DX s)], L := λ _ => [], val := λ s => .tup [.d (eLn (CS s).1), .bool (CS s).2], keep := λ _ => [], pre := λ s => [s.length < 1073741824 /\ ∀ g ∈ s, XH g] }
def BNJ (s : List Gau) : Prop := CH Try.prog (BNV s) BFH (AI BFH) (C_line.xs s) (AD []) (C_line.val s) [] [] []
abbrev jL (s : List Gau) : List Gau := OC s.length λ (i : Nat) => gD s i
abbrev iY (s : List Gau) : Nat := (jL s).length
abbrev X7 (s : List Gau) : Prop := iY s = s.length
abbrev qE (s : List Gau) (i : Nat) : Gau := gD (jL s) i
abbrev AQD (s : List Gau) (i : Nat) : Int := (qE s i).st
abbrev AQP (s : List Gau) (i : Nat) : Int := (qE s i).lo
abbrev APO (s : List Gau) (i : Nat) : Int := (qE s i).hi
abbrev AAK (s : List Gau) : Prop := ∀ (i : Nat), i < iY s -> AQD s i = (gD s i).st /\ AQP s i = (gD s i).lo /\ APO s i = (gD s i).hi
abbrev Z5 (s : List Gau) : List Gau := OC (iY s) λ (i : Nat) => qE s i
abbrev X2 (s : List Gau) : Nat := (Z5 s).length
abbrev uR (s : List Gau) (i : Nat) : Gau := gD (Z5 s) i
abbrev AHU (s : List Gau) : List Pt := AA (Z5 s)
abbrev AFL (s : List Gau) : Nat := (AHU s).length
abbrev AHZ (s : List Gau) : Prop := (AA s).length = AFL s
abbrev ADO (s : List Gau) (i : Nat) : Pt := gD (AHU s) i
abbrev AGE (s : List Gau) : Prop := ∀ (i : Nat), i < (AA s).length -> (gD (AA s) i).st = (ADO s i).st /\ (gD (AA s) i).fl = (ADO s i).fl
abbrev By : Prop := Int.ofNat (0 : Nat) = Int.ofNat (0 : Nat)
abbrev jN (s : List Gau) : Prop := By /\ By /\ By /\ By /\ By /\ By /\ By /\ By /\ false = false /\ s.length = s.length /\ ∀ (i : Nat), i < s.length -> (gD s i).st =
 (gD s i).st /\ (gD s i).lo = (gD s i).lo /\ (gD s i).hi = (gD s i).hi
abbrev vC (a : Nat) (s : List Gau) : Prop := a <= (AA s).length /\ ∀ (x : Ln), List.Mem x (Rs s a) -> Fd s x = false
abbrev AEK (a : Nat) (s : List Gau) : Prop := (↑a : Int) < (↑(AA s).length : Int)
abbrev AHS (s : List Gau) : Prop := iY s < (4611686018427387904 : Nat)
abbrev AGG (g : Gau) (s : List Gau) : Prop := List.Mem g (jL s)
abbrev AFK (g : Gau) : Prop := (0 : Int) <= g.st /\ g.st <= (2000 : Int) /\ (0 : Int) <= g.lo /\ g.lo <= g.hi /\ g.hi <= (200000 : Int)
abbrev vQ (s : List Gau) : Bool := (↑s.length : Int) == (0 : Int)
abbrev z_line_24 : Ln := BP (Pt.mk (0 : Int) (0 : Int))
abbrev vL (s : List Gau) : Prop := ((0 : Int) <= (0 : Int) /\ (0 : Int) <= (2000 : Int)) /\ (CS s).fst.a0 = z_line_24.a0 /\ (CS s).fst.a1 = z_line_24.a1 /\ (CS s).fst.b0 = z_line_24.b0 /\ (CS s).fst.b1 =
 z_line_24.b1 /\ (CS s).snd = true
abbrev Ce (s : List Gau) : Prop := (AA s).length = (AA s).length
abbrev Cg (s : List Gau) : Prop := ∀ (i : Nat), i < (AA s).length -> (gD (AA s) i).st = (gD (AA s) i).st /\ (gD (AA s) i).fl = (gD (AA s) i).fl
abbrev Vd (s : List Gau) : Prop := (↑(AA s).length : Int) = (↑(AA s).length : Int)
abbrev wD (s : List Gau) (a : Nat) : Nat := (AA s).length - a
abbrev uZ (a : IJ) (s : List Gau) (a1 : Nat) : Prop := a.i < (AA s).length /\ a.j <= (AA s).length /\ (AA s).length - a.i = wD s a1 /\ ∀ (y : Ln), List.Mem y (QX s a.i a.j) -> Fd s y = false
abbrev ADM (a : IJ) (s : List Gau) : Prop := (↑a.j : Int) < (↑(AA s).length : Int)
abbrev ACL (s : List Gau) (a : IJ) : Ln := Ln.mk (gD (AA s) a.i).st (gD (AA s) a.i).fl (gD (AA s) a.j).st (gD (AA s) a.j).fl
abbrev ACR (s : List Gau) (a : IJ) : Bool := jT (ACL s a)
abbrev ADU (s : List Gau) (a : IJ) : Nat := (AA s).length - a.j
abbrev AHY (s : List Gau) (a : IJ) (l : Nat) (a1 : Nat) : Prop := ∃ (a_1 : IJ), (Ce s /\ Cg s /\ Vd s /\ (↑a_1.j : Int) = IntKind.i64.wrap ((↑a.j : Int) + (1 : Int)) /\ Fn.yield l = Fn.yield l /\
 Ce s /\ Cg s /\ Ce s /\ Cg s /\ Vd s /\ (↑a_1.i : Int) = (↑a.i : Int) /\ (gD (AA s) a_1.i).st = (gD (AA s) a.i).st /\ (gD (AA s) a_1.i).fl = (gD (AA s) a.i).fl /\ jN s) /\
 uZ a_1 s a1 /\ ADU s a_1 < ADU s a
theorem BUQ (s : List Gau) : (BNJ s) = ((X7 s /\ AAK s) /\ ∀ (l : Nat), (X2 s = iY s /\ (∀ (i : Nat), i < X2 s -> (uR s i).st = AQD s i /\ (uR s i).lo = AQP s i /\
 (uR s i).hi = APO s i) /\ X2 s < (1073741824 : Nat) /\ True) /\ (∃ (a : Nat), (Fn.yield l = Fn.yield l /\ AHZ s /\ AGE s /\ AHZ s /\ AGE s /\ (↑(AA s).length : Int) = (↑(AFL s)
 : Int) /\ (↑a : Int) = (0 : Int) /\ jN s) /\ vC a s) /\ ∀ (a : Nat), vC a s -> bif decide (AEK a s) then ((0 : Int) <= (↑a : Int) /\ AEK a s) /\ ((0 : Int) <= (gD (AA s) a).st /\ (gD (AA s)
 a).st <= (2000 : Int)) /\ l = l /\ (X7 s /\ AAK s /\ (BP (gD (AA s) a)).a0 = (BP (gD (AA s) a)).a0 /\ (BP (gD (AA s) a)).a1 = (BP (gD (AA s) a)).a1 /\ (BP (gD (AA s) a)).b0 = (BP (gD (AA
 s) a)).b0 /\ (BP (gD (AA s) a)).b1 = (BP (gD (AA s) a)).b1 /\ AHS s /\ ∀ (g : Gau), AGG g s -> ((0 : Int) <= (BP (gD (AA s) a)).a0 /\ (BP (gD (AA s) a)).a0 < (BP (gD (AA s) a)).b0 /\ (BP
 (gD (AA s) a)).b0 <= (2000 : Int) /\ (0 : Int) <= (BP (gD (AA s) a)).a1 /\ (BP (gD (AA s) a)).a1 <= (BP (gD (AA s) a)).b1 /\ (BP (gD (AA s) a)).b1 <= (200000 : Int)) /\ AFK g) /\ bif (jL s).all
 λ (g : Gau) => KI (BP (gD (AA s) a)) g then bif vQ s then vL s else (CS s).fst.a0 = (BP (gD (AA s) a)).a0 /\ (CS s).fst.a1 = (BP (gD (AA s) a)).a1 /\ (CS s).fst.b0 = (BP (gD
 (AA s) a)).b0 /\ (CS s).fst.b1 = (BP (gD (AA s) a)).b1 /\ (CS s).snd = true else (∃ (a_2 : IJ), (Ce s /\ Cg s /\ Vd s /\ (↑a_2.j : Int) = (0 : Int) /\ Fn.yield l = Fn.yield l /\ Ce s /\
 Cg s /\ Ce s /\ Cg s /\ Vd s /\ (↑a_2.i : Int) = (↑a : Int) /\ (gD (AA s) a_2.i).st = (gD (AA s) a).st /\ (gD (AA s) a_2.i).fl = (gD (AA s) a).fl /\ jN s) /\ uZ a_2 s a) /\ ∀
 (a_2 : IJ), uZ a_2 s a -> bif decide (ADM a_2 s) then ((0 : Int) <= (↑a_2.j : Int) /\ ADM a_2 s) /\ bif if true = true then ACR s a_2 else !ACR s a_2 then l = l /\ (X7 s /\ AAK s /\ (gD
 (AA s) a_2.i).st = (gD (AA s) a_2.i).st /\ (gD (AA s) a_2.i).fl = (gD (AA s) a_2.i).fl /\ (gD (AA s) a_2.j).st = (gD (AA s) a_2.j).st /\ (gD (AA s) a_2.j).fl = (gD (AA s) a_2.j).fl /\ AHS s /\ ∀
 (g : Gau), AGG g s -> ((0 : Int) <= (gD (AA s) a_2.i).st /\ (gD (AA s) a_2.i).st < (gD (AA s) a_2.j).st /\ (gD (AA s) a_2.j).st <= (2000 : Int) /\ (0 : Int) <= (gD (AA s) a_2.i).fl /\ (gD (AA s) a_2.i).fl
 <= (gD (AA s) a_2.j).fl /\ (gD (AA s) a_2.j).fl <= (200000 : Int)) /\ AFK g) /\ bif (jL s).all λ (g : Gau) => KI (ACL s a_2) g then bif vQ s then vL s else (CS s).fst.a0 = (gD
 (AA s) a_2.i).st /\ (CS s).fst.a1 = (gD (AA s) a_2.i).fl /\ (CS s).fst.b0 = (gD (AA s) a_2.j).st /\ (CS s).fst.b1 = (gD (AA s) a_2.j).fl /\ (CS s).snd = true else AHY s a_2 l a else AHY s
 a_2 l a else ∃ (a_4 : Nat), (Fn.yield l = Fn.yield l /\ Ce s /\ Cg s /\ Ce s /\ Cg s /\ Vd s /\ (↑a_4 : Int) = IntKind.i64.wrap ((↑a_2.i : Int) + (1 : Int)) /\ jN s) /\ vC a_4 s /\
 wD s a_4 < wD s a else bif vQ s then vL s else (CS s).fst.a0 = (0 : Int) /\ (CS s).fst.a1 = (0 : Int) /\ (CS s).fst.b0 = (0 : Int) /\ (CS s).fst.b1 = (0 : Int) /\ (CS s).snd =
 false) := by kernel_rfl
def okP (p : Pt) : Prop := 0 <= p.st /\ p.st <= 2000 /\ 0 <= p.fl /\ p.fl <= 200000
theorem BTX {l : List Pt} {p q : Pt} : q ∈ addP l p ↔ q ∈ l ∨ q = p := by
 unfold addP; split
 ·rename_i h
  exact ⟨.inl, λ h2 => h2.elim id λ h2 => h2 ▸ h⟩
 ·simp
theorem AUK : ∀ (s : List Gau) (l : List Pt) (p : Pt), p ∈ s.foldl addG l ↔ p ∈ l ∨ ∃ g ∈ s, p = ⟨g.st, g.lo⟩ ∨ p = ⟨g.st, g.hi⟩
 | [], l, p => by simp
 | g :: s, l, p => by
  rw [List.foldl_cons, AUK s]
  simp only [addG, BTX, List.mem_cons, exists_eq_or_imp]
  constructor
  ·rintro (((h | h) | h) | h)
   ·exact .inl h
   ·exact .inr (.inl (.inl h))
   ·exact .inr (.inl (.inr h))
   ·exact .inr (.inr h)
  ·rintro (h | (h | h) | h)
   ·exact .inl (.inl (.inl h))
   ·exact .inl (.inl (.inr h))
   ·exact .inl (.inr h)
   ·exact .inr h
theorem AOM {s : List Gau} {p : Pt} : p ∈ AA s ↔ ∃ g ∈ s, p = ⟨g.st, g.lo⟩ ∨ p = ⟨g.st, g.hi⟩ := by
 unfold AA; rw [AUK]; simp
theorem cK {s : List Gau} (h : ∀ g ∈ s, XH g) {p : Pt} (hp : p ∈ AA s) : okP p := by
 obtain ⟨g, hg, rfl | rfl⟩ := AOM.1 hp
 ·obtain ⟨h1, h2, h3, h4, h5⟩ := h g hg; exact ⟨h1, h2, h3, by show g.lo <= _; omega⟩
 ·obtain ⟨h1, h2, h3, h4, h5⟩ := h g hg; exact ⟨h1, h2, by show 0 <= g.hi; omega, h5⟩
theorem dJ {p : Pt} (h : okP p) : NJ (BP p) := by
 obtain ⟨h1, h2, h3, h4⟩ := h
 unfold BP; split
 ·exact ⟨by show 0 <= p.st - 1; omega, by show p.st - 1 < p.st; omega, h2, h3, Int.le_refl _, h4⟩
 ·exact ⟨h1, by show p.st < p.st + 1; omega, by show p.st + 1 <= 2000; omega, h3, Int.le_refl _, h4⟩
theorem cP {x : Ln} : jT x = true ↔ NJ x := by
 unfold jT riP Cb NJ
 simp only [Bool.and_eq_true, decide_eq_true_eq]
 constructor
 ·intro h; exact ⟨by omega, by omega, by omega, by omega, by omega, by omega⟩
 ·intro h; exact ⟨⟨⟨⟨⟨by omega, by omega⟩, by omega, by omega⟩, ⟨by omega, by omega⟩, by omega, by omega⟩, by omega⟩, by omega⟩
theorem BLH {s : List Gau} {i : Nat} (h : i < (AA s).length) : Rs s (i + 1) = Rs s i ++ blk (AA s) (gD (AA s) i) := by
 unfold Rs; rw [SQ h, List.flatMap_append]; simp
theorem sX {s : List Gau} : Rs s (AA s).length = Lu s := by unfold Rs Lu; rw [List.take_length]
theorem sL {s : List Gau} {i : Nat} (h : i < (AA s).length) : QX s i (AA s).length = Rs s (i + 1) := by
 rw [BLH h]; unfold QX blk; rw [List.take_length]
theorem Vn {s : List Gau} {i j : Nat} (h : j < (AA s).length) : QX s i (j + 1) = QX s i j ++ (if jT (nZ (gD (AA s) i) (gD (AA s) j)) then [nZ (gD (AA s) i) (gD (AA s) j)] else []) := by
 unfold QX
 rw [SQ h, List.map_append, List.filter_append, <- List.cons_append, <- List.append_assoc]
 simp only [List.map_cons, List.map_nil]
 congr 1
 split
 ·rename_i h1; rw [List.filter_cons_of_pos h1]; rfl
 ·rename_i h1; rw [List.filter_cons_of_neg h1]; rfl
theorem CEV {s : List Gau} : ∀ {i : Nat}, ∃ r, Lu s = Rs s i ++ r := λ {i} => by
 refine ⟨((AA s).drop i).flatMap (blk (AA s)), ?_⟩
 unfold Lu Rs
 rw [<- List.flatMap_append, List.take_append_drop]
theorem BOX {s : List Gau} {i j : Nat} (h : i < (AA s).length) : ∃ r, Lu s = QX s i j ++ r := by
 obtain ⟨r, hr⟩ := CEV (s := s) (i := i + 1)
 rw [hr, <- sL h]
 refine ⟨(((AA s).drop j).map (nZ (gD (AA s) i))).filter jT ++ r, ?_⟩
 unfold QX
 rw [List.take_length]
 conv => lhs; rw [<- List.take_append_drop j (AA s)]
 simp only [List.map_append, List.filter_append, List.append_assoc, List.cons_append]
 rw [List.take_append_drop]
theorem BWW {α : Type} {f : α -> Bool} {p : List α} {x : α} {r : List α} (h : ∀ y ∈ p, f y = false) (hx : f x = true) : (p ++ x :: r).find? f = some x := by
 rw [List.find?_append, List.find?_eq_none.2 (λ y hy => by simp [h y hy])]
 simp [hx]
theorem AQZ {s : List Gau} {p : List Ln} {x : Ln} {r : List Ln} (h : Lu s = p ++ x :: r) (h1 : ∀ y ∈ p, Fd s y = false) (hx : Fd s x = true) (h0 : s.length ≠ 0) : CS s = (x, true) := by
 unfold CS; rw [if_neg h0, h, BWW h1 hx]
theorem BNT {s : List Gau} (h : s.length = 0) : CS s = (BP ⟨0, 0⟩, true) := if_pos h
theorem BMC {s : List Gau} (h : ∀ y ∈ Lu s, Fd s y = false) (h0 : s.length ≠ 0) : CS s = (default, false) := by
 unfold CS; rw [if_neg h0, List.find?_eq_none.2 (λ y hy => by simp [h y hy])]
theorem Z3 : AL Try.prog AIJ (C_line.spec Ch) := Ih C_line BNV [] [] BVI (λ _ => by kernel_rfl) (λ _ => AB J0 (AB N8 (AB Sm AF))) (λ (s : List Gau) h => by
 show BNJ s; rw [BUQ]; delta jL iY X7 qE AQD AQP APO AAK Z5 X2 uR AHU AFL AHZ ADO AGE By jN vC AEK AHS AGG AFK vQ z_line_24 vL Ce Cg Vd wD uZ ADM ACL ACR ADU AHY; simp only [CC, eq_self, implies_true, forall_const, if_true]
 obtain ⟨hn, hg⟩ : s.length < 1073741824 /\ ∀ g ∈ s, XH g := h
 have nil : ((s.length : Int) == 0) = true -> (0 <= (0 : Int) /\ (0 : Int) <= 2000) /\ (CS s).fst.a0 = (BP ⟨0, 0⟩).a0 /\ (CS s).fst.a1 = (BP ⟨0, 0⟩).a1 /\ (CS s).fst.b0 = (BP ⟨0, 0⟩).b0 /\ (CS s).fst.b1 = (BP ⟨0, 0⟩).b1 /\ (CS s).snd = true := λ h => by
  rw [BNT (by simpa using h)]; exact ⟨by omega, rfl, rfl, rfl, rfl, rfl⟩
 have ok : ∀ x, NJ x -> s.length < 4611686018427387904 /\ ∀ g : Gau, List.Mem g s -> NJ x /\ XH g := λ x hx => ⟨by omega, λ g hgs => ⟨hx, hg g hgs⟩⟩
 have he : (AA s).length <= 2 * s.length := by
  have := Vg (s := s) s.length (Nat.le_refl _)
  unfold Im at this; rw [List.take_length] at this; exact this
 have e_ok : ∀ i, i < (AA s).length -> okP (gD (AA s) i) := λ i hi => cK hg (DU hi)
 refine ⟨by omega, ⟨0, rfl, Nat.zero_le _, λ x hx => by cases hx⟩, λ i ⟨hi, hp⟩ => ⟨λ hlt => ?_, λ hge => ?_⟩⟩
 ·have hlt : i < (AA s).length := by omega
  obtain ⟨r0, hr0⟩ := BOX (s := s) (j := 0) hlt
  have hpe : QX s i 0 = Rs s i ++ [BP (gD (AA s) i)] := by unfold QX; simp
  have hr0' : Lu s = Rs s i ++ BP (gD (AA s) i) :: r0 := by rw [hr0, hpe]; simp
  refine ⟨⟨by omega, by omega⟩, ⟨(e_ok i hlt).1, (e_ok i hlt).2.1⟩, ok _ (dJ (e_ok i hlt)), λ hpa => ⟨nil, λ h0 => ?_⟩, λ hpa => ⟨⟨⟨i, 0⟩, ⟨rfl, rfl, rfl, rfl⟩, hlt, Nat.zero_le _, rfl, λ y hy => ?_⟩, λ x ⟨hx1, hx2, hx3, hx4⟩ => ⟨λ hj => ?_, λ hj => ?_⟩⟩⟩
  ·rw [AQZ hr0' hp hpa (by simpa using h0)]; exact ⟨rfl, rfl, rfl, rfl, rfl⟩
  ·have hy : y ∈ Rs s i ++ [BP (gD (AA s) i)] := hpe ▸ hy
   rcases List.mem_append.1 hy with hy | hy
   ·exact hp y hy
   ·rw [List.mem_singleton.1 hy]; exact hpa
  ·have hj : x.j < (AA s).length := by omega
   have step : (∀ y ∈ QX s x.i (x.j + 1), Fd s y = false) -> ∃ z : IJ, ((z.j : Int) = IntKind.i64.wrap ((x.j : Int) + 1) /\ (z.i : Int) = x.i /\ (gD (AA s) z.i).st = (gD (AA s) x.i).st /\ (gD (AA s) z.i).fl = (gD (AA s) x.i).fl) /\ (z.i < (AA s).length /\ z.j <= (AA s).length /\ (AA s).length - z.i = (AA s).length - i /\ ∀ y : Ln, List.Mem y (QX s z.i z.j) -> Fd s y = false) /\ (AA s).length - z.j < (AA s).length - x.j := λ h =>
    ⟨⟨x.i, x.j + 1⟩, ⟨(EQ (by omega)).symm, rfl, rfl, rfl⟩, ⟨hx1, hj, hx3, h⟩, by show (AA s).length - (x.j + 1) < _; omega⟩
   refine ⟨⟨by omega, by omega⟩, λ hri => ⟨ok ⟨_, _, _, _⟩ (cP.1 hri), λ hpa => ⟨nil, λ h0 => ?_⟩, λ hpa => step λ y hy => ?_⟩, λ hri => step λ y hy => ?_⟩
   ·have hri' : jT (nZ (gD (AA s) x.i) (gD (AA s) x.j)) = true := hri
    obtain ⟨r, hr⟩ := BOX (s := s) (j := x.j + 1) hx1
    rw [Vn hj, if_pos hri', List.append_assoc] at hr
    rw [AQZ hr hx4 hpa (by simpa using h0)]; exact ⟨rfl, rfl, rfl, rfl, rfl⟩
   ·have hri' : jT (nZ (gD (AA s) x.i) (gD (AA s) x.j)) = true := hri
    rw [Vn hj, if_pos hri'] at hy
    rcases List.mem_append.1 hy with hy | hy
    ·exact hx4 y hy
    ·rw [List.mem_singleton.1 hy]; exact hpa
   ·have hri' : ¬ jT (nZ (gD (AA s) x.i) (gD (AA s) x.j)) = true := by
     intro h; have h : jT ⟨_, _, _, _⟩ = true := h; rw [hri] at h; cases h
    rw [Vn hj, if_neg hri', List.append_nil] at hy
    exact hx4 y hy
  ·have hje : x.j = (AA s).length := by omega
   refine ⟨x.i + 1, (EQ (by omega)).symm, ⟨by omega, λ y hy => ?_⟩, by omega⟩
   rw [<- sL hx1] at hy
   exact hx4 y (hje ▸ hy)
 ·have hie : i = (AA s).length := by omega
  rw [hie, sX] at hp
  refine ⟨nil, λ h0 => ?_⟩
  rw [BMC hp (by simpa using h0)]; exact ⟨rfl, rfl, rfl, rfl, rfl⟩) (λ s => BRF ZW (BRG s) rfl rfl (AB AAN (AB Sm (AB AOA AF))) rK (by kernel_rfl) (by kernel_rfl)) _
end Go.Bal
