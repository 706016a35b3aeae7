/- Package rating: the reference's gaugings and ratings; Passes. -/
import Derived.Test.YtoihhodbkimedaaGreatRLn3
set_option linter.unusedVariables false
set_option linter.unusedSimpArgs false
namespace Go.Bal
open Go Go.Sym Go.Proofs
def C_Gaus : Ctr := { α := List Gau, xs := λ l => [.d (BE l)], val := λ l => .d (BE l), pre := λ l => [l.length < 1073741824 /\ True] }
def ga3n (l : List Gau) : Shape := { α := One, dflt := default, T := λ _ => ⟨[(0, .d (BE l)), (3, .d PQ), (4, .int 0)], []⟩, inv := λ _ => True, meas := λ _ => l.length + 1 }
def ga3o (l : List Gau) : Shape := { α := Nat, dflt := 0, T := λ i => ⟨[(0, .d (BE l)), (3, .own 301 3 0 i), (4, .int i)], [(301, .live (.row 3 i λ j => uX (gD l j)))]⟩, inv := λ i => 1 <= i /\ i <= l.length, meas := λ i => l.length - i, again := [(301, 6096)] }
def BFZ (l : List Gau) : Ann := { ann 19 [] with mt := λ id => id == 5, loops := λ id => if id = 3 then some [ga3n l, ga3o l] else none }
def BIS (l : List Gau) : Prop := AO Try.prog (BFZ l) AYD (AF AYD) (C_Gaus.xs l) (AC []) (C_Gaus.val l) [] [] [301]
theorem BND (l : List Gau) : (BIS l) = ((∃ (a : One), (l.length = l.length /\ (∀ (i : Nat), i < l.length -> (gD l i).st = (gD l i).st /\ (gD l i).lo = (gD l i).lo /\ (gD l i).hi = (gD l i).hi) /\ (0 : Nat) = (0 : Nat)
 /\ (∀ (i : Nat), i < (0 : Nat) -> false = false) /\ Int.ofNat (0 : Nat) = Int.ofNat (0 : Nat)) /\ True) /\ (∀ (a : One), True -> bif decide ((0 : Int) < (↑l.length : Int)) then (((0 : Int) <= (0 : Int) /\ (0 : Int) < (↑l.length
 : Int)) /\ (True /\ ((0 : Nat) < (0 : Nat) -> (0 : Nat) = (3 : Nat))) /\ ((1 : Nat) <= (1 : Nat) /\ ((0 : Nat) < (1 : Nat) -> (3 : Nat) = (3 : Nat))) /\ (true = true -> (0 : Nat) < (1 : Nat)) /\ (1 : Nat) <= (9223372036854775807 :
 Nat) /\ (24 : Nat) <= (140737488355328 : Nat)) /\ ∃ (a : Nat), (l.length = l.length /\ (∀ (i : Nat), i < l.length -> (gD l i).st = (gD l i).st /\ (gD l i).lo = (gD l i).lo /\ (gD l i).hi = (gD l i).hi) /\ (0 : Nat) = (0 : Nat) /\
 a = (1 : Nat) /\ (↑a : Int) = IntKind.i64.wrap ((0 : Int) + (1 : Int)) /\ a = (1 : Nat) /\ ∀ (i : Nat), i < a -> (gD l i).st = (gD l (Int.toNat (0 : Int))).st /\ (gD l i).lo = (gD l (Int.toNat (0 : Int))).lo /\ (gD l i).hi =
 (gD l (Int.toNat (0 : Int))).hi) /\ ((1 : Nat) <= a /\ a <= l.length) /\ l.length - a < l.length + (1 : Nat) else l.length = (0 : Nat) /\ l.length = (0 : Nat)) /\ ∀ (a : Nat), (1 : Nat) <= a /\ a <= l.length -> bif decide ((↑a :
 Int) < (↑l.length : Int)) then (((0 : Int) <= (↑a : Int) /\ (↑a : Int) < (↑l.length : Int)) /\ (a = a /\ ((0 : Nat) < a -> (3 : Nat) = (3 : Nat))) /\ ((1 : Nat) <= (1 : Nat) /\ ((0 : Nat) < (1 : Nat) -> (3 : Nat) = (3 : Nat))) /\
 (false = true -> (0 : Nat) < (1 : Nat)) /\ a + (1 : Nat) <= (9223372036854775807 : Nat) /\ (a + (1 : Nat)) * (24 : Nat) <= (140737488355328 : Nat)) /\ ∃ (a_2 : Nat), (l.length = l.length /\ (∀ (i : Nat), i < l.length -> (gD l
 i).st = (gD l i).st /\ (gD l i).lo = (gD l i).lo /\ (gD l i).hi = (gD l i).hi) /\ (0 : Nat) = (0 : Nat) /\ a_2 = a + (1 : Nat) /\ (↑a_2 : Int) = IntKind.i64.wrap ((↑a : Int) + (1 : Int)) /\ a_2 = a + (1 : Nat) /\ ∀ (i : Nat), i
 < a_2 -> ((gD l i).st = bif decide (i < a) then (gD l i).st else (gD l a).st) /\ ((gD l i).lo = bif decide (i < a) then (gD l i).lo else (gD l a).lo) /\ (gD l i).hi = bif decide (i < a) then (gD l i).hi else (gD l a).hi) /\
 ((1 : Nat) <= a_2 /\ a_2 <= l.length) /\ l.length - a_2 < l.length - a else l.length = a /\ (0 : Nat) + a <= a /\ ∀ (j : Nat), j < l.length -> (gD l j).st = (gD l ((0 : Nat) + j)).st /\ (gD l j).lo = (gD l ((0 : Nat) + j)).lo /\
 (gD l j).hi = (gD l ((0 : Nat) + j)).hi) := by kernel_rfl
def ARG := pD dL1 λ x => .d (eLn x)
def BCB (x : Ln) : Prop := AO Try.prog (ann 8 []) AQY (AF AQY) (xL1 x) (AC []) (.d (eLn x)) [] [] []
theorem BLY (x : Ln) : (BCB x) = (x.a0 = x.a0 /\ x.a1 = x.a1 /\ x.b0 = x.b0 /\ x.b1 = x.b1) := by kernel_rfl
def C_modC : Ctr := { α := Rtg, xs := λ r => [.d (E4 r)], val := λ r => .d (E4 r), pre := λ r => [r.b.length < 1073741824 /\ r.l.length < 1073741824] }
def mcH (r : Rtg) (v : AVal) : List (Nat × HCell) := [(1000, rtgC r), (1016, .live (.box [.d PQ, .d PQ])), (2064, .live (.box [.d (BD r.b), v]))]
def mcS (i : AVal) : List (Nat × AVal) := [(1, .bptr 1000 0), (2, .bptr 1016 0), (3, .bptr 2064 0), (4, i)]
def mc3n (r : Rtg) : Shape := { α := One, dflt := default, T := λ _ => ⟨mcS (.int 0), mcH r (.d PQ)⟩, inv := λ _ => True, meas := λ _ => r.l.length + 1 }
def mc3o (r : Rtg) : Shape := { α := Nat, dflt := 0, T := λ i => ⟨mcS (.int i), mcH r (.own 301 4 0 i) ++ [(301, .live (.row 4 i λ j => eLn (gD r.l j)))]⟩, inv := λ i => 1 <= i /\ i <= r.l.length, meas := λ i => r.l.length - i, again := [(301, 6144)] }
def BJV (r : Rtg) : Ann := { ann 28 [(J8, C_cdI.spec dIs1), (G3, ARG)] with mt := λ id => id == 5, loops := λ id => if id = 3 then some [mc3n r, mc3o r] else none }
def BGE (r : Rtg) : Prop := AO Try.prog (BJV r) AGQ (AF AGQ) (C_modC.xs r) (AC []) (C_modC.val r) [] [] [301]
abbrev AGC (r : Rtg) : List Int := AD r.b.length λ (i : Nat) => gD r.b i
abbrev Fl (r : Rtg) : Nat := (AGC r).length
abbrev AEB (r : Rtg) (i : Nat) : Int := gD (AGC r) i
abbrev NY (r : Rtg) : Prop := r.b.length = r.b.length
abbrev NK (r : Rtg) : Prop := ∀ (i : Nat), i < r.b.length -> gD r.b i = gD r.b i
abbrev gV (r : Rtg) : Prop := r.l.length = r.l.length
abbrev kG (r : Rtg) : Prop := ∀ (i : Nat), i < r.l.length -> (gD r.l i).a0 = (gD r.l i).a0 /\ (gD r.l i).a1 = (gD r.l i).a1 /\ (gD r.l i).b0 = (gD r.l i).b0 /\ (gD r.l i).b1 = (gD r.l i).b1
abbrev HO : Prop := (0 : Nat) = (0 : Nat)
abbrev NO : Prop := ∀ (i : Nat), i < (0 : Nat) -> false = false
abbrev ACM (r : Rtg) : Prop := (0 : Int) < (↑r.l.length : Int)
abbrev Nk : Prop := (0 : Nat) < (1 : Nat)
abbrev qI : Prop := (4 : Nat) = (4 : Nat)
abbrev wB : Prop := (1 : Nat) <= (1 : Nat) /\ (Nk -> qI)
abbrev TT (r : Rtg) : Ln := gD r.l (Int.toNat (0 : Int))
abbrev Ls (a : Nat) (r : Rtg) : Prop := (1 : Nat) <= a /\ a <= r.l.length
abbrev Mx (r : Rtg) (a : Nat) : Nat := r.l.length - a
abbrev pW (r : Rtg) : Prop := r.l.length = (0 : Nat)
abbrev xD (a : Nat) (r : Rtg) : Prop := (↑a : Int) < (↑r.l.length : Int)
abbrev Pd (a : Nat) : Nat := a + (1 : Nat)
abbrev B7 (a : Nat) (a1 : Nat) : Prop := a = Pd a1
abbrev pL (a : Nat) : Nat := (0 : Nat) + a
abbrev UV (r : Rtg) (j : Nat) : Ln := gD r.l (pL j)
theorem BQA (r : Rtg) : (BGE r) = ((Fl r = r.b.length /\ (∀ (i : Nat), i < Fl r -> AEB r i = gD r.b i) /\ Fl r < (1073741824 : Nat) /\ True) /\ (∃ (a : One), (Int.ofNat (0 : Nat) = Int.ofNat (0 :
 Nat) /\ NY r /\ NK r /\ gV r /\ kG r /\ HO /\ NO /\ HO /\ NO /\ r.b.length = Fl r /\ (∀ (i : Nat), i < r.b.length -> gD r.b i = AEB r i) /\ HO /\ NO) /\ True) /\ (∀
 (a : One), True -> bif decide (ACM r) then (((0 : Int) <= (0 : Int) /\ ACM r) /\ (True /\ ((0 : Nat) < (0 : Nat) -> (0 : Nat) = (4 : Nat))) /\ wB /\ (true = true -> Nk) /\ (1 : Nat) <= (9223372036854775807 :
 Nat) /\ (32 : Nat) <= (140737488355328 : Nat)) /\ ∃ (a : Nat), ((↑a : Int) = IntKind.i64.wrap ((0 : Int) + (1 : Int)) /\ NY r /\ NK r /\ gV r /\ kG r /\ HO /\ NO /\ HO /\ NO /\
 NY r /\ NK r /\ HO /\ a = (1 : Nat) /\ a = (1 : Nat) /\ ∀ (i : Nat), i < a -> (gD r.l i).a0 = (TT r).a0 /\ (gD r.l i).a1 = (TT r).a1 /\ (gD r.l i).b0 = (TT r).b0 /\ (gD r.l i).b1 =
 (TT r).b1) /\ Ls a r /\ Mx r a < r.l.length + (1 : Nat) else NY r /\ NK r /\ pW r /\ pW r) /\ ∀ (a : Nat), Ls a r -> bif decide (xD a r) then (((0 : Int) <= (↑a : Int)
 /\ xD a r) /\ (a = a /\ ((0 : Nat) < a -> qI)) /\ wB /\ (false = true -> Nk) /\ Pd a <= (9223372036854775807 : Nat) /\ Pd a * (32 : Nat) <= (140737488355328 : Nat)) /\ ∃ (a_2 : Nat), ((↑a_2
 : Int) = IntKind.i64.wrap ((↑a : Int) + (1 : Int)) /\ NY r /\ NK r /\ gV r /\ kG r /\ HO /\ NO /\ HO /\ NO /\ NY r /\ NK r /\ HO /\ B7 a_2 a /\ B7 a_2 a
 /\ ∀ (i : Nat), i < a_2 -> ((gD r.l i).a0 = bif decide (i < a) then (gD r.l i).a0 else (gD r.l a).a0) /\ ((gD r.l i).a1 = bif decide (i < a) then (gD r.l i).a1 else (gD r.l a).a1) /\ ((gD r.l i).b0 = bif decide (i < a) then
 (gD r.l i).b0 else (gD r.l a).b0) /\ (gD r.l i).b1 = bif decide (i < a) then (gD r.l i).b1 else (gD r.l a).b1) /\ Ls a_2 r /\ Mx r a_2 < Mx r a else NY r /\ NK r /\ r.l.length = a /\ pL
 a <= a /\ ∀ (j : Nat), j < r.l.length -> (gD r.l j).a0 = (UV r j).a0 /\ (gD r.l j).a1 = (UV r j).a1 /\ (gD r.l j).b0 = (UV r j).b0 /\ (gD r.l j).b1 = (UV r j).b1) := by kernel_rfl
def rsS (a : GR) (v : AVal) (k : Nat) : List (Nat × AVal) := [(0, .d (BE a.g)), (3, .bptr 1000 0), (8, v), (9, .int k)]
def rs9n (a : GR) : Shape := { α := Nat, dflt := 0, T := λ k => ⟨rsS a (.d PQ) k, [(1000, rtgC a.r)]⟩, inv := λ k => psI a k [], meas := λ k => a.g.length - k }
def rs9o (a : GR) : Shape := { α := KI, dflt := default, T := λ x => ⟨rsS a (.own 301 1 0 x.l.length) x.k, [(1000, rtgC a.r), (301, .live (rowI x.l))]⟩, inv := λ x => psI a x.k x.l, meas := λ x => a.g.length - x.k }
def BYA (a : GR) (m : Nat) : Shape := { α := Nat, dflt := 0, T := λ k => ⟨rsS a (.d PQ) k, [(1000, rtgC a.r)]⟩, inv := λ k => k < a.g.length /\ a.g.length - k = m /\ psI a (k + 1) [], meas := λ _ => 0 }
def BSV (a : GR) (m : Nat) (f : List (Nat × Nat)) : Shape := { α := KI, dflt := default, T := λ x => ⟨rsS a (.own 301 1 0 x.l.length) x.k, [(1000, rtgC a.r), (301, .live (rowI x.l))]⟩, inv := λ x => x.k < a.g.length /\ a.g.length - x.k = m /\ psI a (x.k + 1) x.l, meas := λ _ => 0, first := f }
def BJF (a : GR) : Ann := { ann 70 [(mF, C_rCheck.spec JW), (kY, C_rChkR.spec dRt1), (L7, C_rPart.spec dIX), (nY, Dx), (AEN, APZ)] with mt := λ id => id == 13, loops := λ id => if id = 9 then some [rs9n a, rs9o a] else none, cutIn := λ gs id => if id = 10 then some [BYA a (gs.getD 0 0), BSV a (gs.getD 0 0) [(301, 14048)], BSV a (gs.getD 0 0) []] else none }
def BLX (a : GR) : Prop := AO Try.prog (BJF a) AYO (AF AYO) (xGR a) (AC []) (C_Passes.val a) [] [] [301]
abbrev lU (a : GR) : List Gau := AD a.g.length λ (i : Nat) => gD a.g i
abbrev jE (a : GR) : Nat := (lU a).length
abbrev jQ (a : GR) (i : Nat) : Gau := gD (lU a) i
abbrev X7 (a : GR) : Int := AK (lU a)
abbrev RI (a : GR) : Prop := (OR a).length = 0
abbrev UK (a : GR) : List Int := AD a.r.b.length λ (i : Nat) => gD a.r.b i
abbrev kU (a : GR) : Nat := (UK a).length
abbrev lS (a : GR) : Prop := kU a = a.r.b.length
abbrev jD (a : GR) : Prop := ∀ (i : Nat), i < kU a -> gD (UK a) i = gD a.r.b i
abbrev fB (a : GR) : List Ln := AD a.r.l.length λ (i : Nat) => gD a.r.l i
abbrev Ml (a : GR) : Nat := (fB a).length
abbrev WA (a : GR) (i : Nat) : Ln := gD (fB a) i
abbrev zA (a : GR) : Prop := kU a < 1073741824
abbrev sK (a : GR) : Int := AZ (Rtg.mk (UK a) (fB a))
abbrev JD (a : GR) : Prop := a.g.length = a.g.length
abbrev pZ (a : GR) (i : Nat) : Prop := (gD a.g i).st = (gD a.g i).st
abbrev IR (a : GR) : Prop := ∀ (i : Nat), i < a.g.length -> pZ a i /\ (gD a.g i).lo = (gD a.g i).lo /\ (gD a.g i).hi = (gD a.g i).hi
abbrev JC : Prop := 0 = 0
abbrev Pf : Prop := ∀ (i : Nat), i < 0 -> false = false
abbrev UY (a : GR) : Prop := a.r.b.length = a.r.b.length
abbrev UT (a : GR) : Prop := ∀ (i : Nat), i < a.r.b.length -> gD a.r.b i = gD a.r.b i
abbrev WB (a : GR) : Prop := a.r.l.length = a.r.l.length
abbrev XT (a : GR) : Prop := ∀ (i : Nat), i < a.r.l.length -> (gD a.r.l i).a0 = (gD a.r.l i).a0 /\ (gD a.r.l i).a1 = (gD a.r.l i).a1 /\ (gD a.r.l i).b0 = (gD a.r.l i).b0 /\ (gD a.r.l i).b1 = (gD a.r.l i).b1
abbrev Nv (a : GR) : Prop := UY a /\ UT a /\ WB a /\ XT a
abbrev UP (a : GR) (a1 : Nat) : Prop := EF a = 0 /\ a1 <= a.g.length /\ [] = SF a a1
abbrev tV (a : Nat) (a1 : GR) : Prop := (↑a : Int) < (↑a1.g.length : Int)
abbrev WI (a : Nat) (a1 : GR) : Prop := 0 <= (↑a : Int) /\ tV a a1
abbrev yS (a : GR) : Prop := zA a /\ True
abbrev Oq (a : GR) (a1 : Nat) : Nat := FA (UK a) (gD a.g a1).st
abbrev PF (a : GR) (a1 : Nat) : Ln := gD a.r.l (Oq a a1)
abbrev B8 (a : GR) (a1 : Nat) : Int := (PF a a1).a0
abbrev sS (a : GR) (a1 : Nat) : Int := (PF a a1).b0
abbrev pY (a : GR) (a1 : Nat) : Int := (PF a a1).a1
abbrev qC (a : GR) (a1 : Nat) : Int := (PF a a1).b1
abbrev tM (a : GR) (a1 : Nat) : Rt := DP (PF a a1) (gD a.g a1).st
abbrev tP (a : GR) (a1 : Nat) : Bool := yZ (tM a a1) (Rt.mk (gD a.g a1).lo 1)
abbrev Nt : Prop := 0 < 1
abbrev nJ : Prop := 1 = 1
abbrev uV : Prop := 1 <= 1 /\ (Nt -> nJ)
abbrev wR (a : KI) : Prop := a.l.length = 1
abbrev GX (a : GR) (a1 : KI) : Nat := a.g.length - a1.k
abbrev HD (a : GR) (a1 : Nat) : Nat := a.g.length - a1
abbrev uD (a : KI) : Nat := a.k + 1
abbrev wZ (a : GR) (a1 : KI) : Prop := EF a = 0 /\ uD a1 <= a.g.length /\ a1.l = SF a (uD a1)
abbrev oT (a : KI) (a1 : GR) (a2 : Nat) : Prop := a.k < a1.g.length /\ GX a1 a = HD a1 a2 /\ wZ a1 a
abbrev zQ (a : Nat) : Nat := a + 1
abbrev tA (a : GR) (a1 : Nat) : Prop := EF a = 0 /\ zQ a1 <= a.g.length /\ [] = SF a (zQ a1)
abbrev wI (a : Nat) (a1 : GR) (a2 : Nat) : Prop := a < a1.g.length /\ HD a1 a = HD a1 a2 /\ tA a1 a
abbrev wN (a : GR) (a1 : Nat) (a2 : Nat) : Prop := JD a /\ IR a /\ JC /\ Pf /\ (↑a1 : Int) = IntKind.i64.wrap ((↑a2 : Int) + 1) /\ Nv a
abbrev Lv (a : KI) (a1 : KI) : Prop := a.l.length = a1.l.length
abbrev sW (a : GR) (a1 : KI) (a2 : KI) : Prop := UY a /\ UT a /\ WB a /\ XT a /\ Lv a1 a2 /\ ∀ (i : Nat), i < a1.l.length -> gD a1.l i = gD a2.l i
abbrev mY (a : GR) (a1 : KI) (a2 : KI) : Prop := JD a /\ IR a /\ JC /\ Lv a1 a2 /\ (↑a1.k : Int) = IntKind.i64.wrap ((↑a2.k : Int) + 1) /\ sW a a1 a2
abbrev Nr (a : GR) (a1 : KI) : Prop := EF a = 0 /\ a1.k <= a.g.length /\ a1.l = SF a a1.k
abbrev xE (a : GR) (a1 : Nat) : Prop := ∀ (a_1 : KI), oT a_1 a a1 -> ∃ (a_3 : KI), mY a a_3 a_1 /\ Nr a a_3 /\ GX a a_3 < HD a a1
abbrev rO (a : KI) (a1 : GR) : Prop := (↑a.k : Int) < (↑a1.g.length : Int)
abbrev WS (a : KI) (a1 : GR) : Prop := 0 <= (↑a.k : Int) /\ rO a a1
abbrev Qc (a : GR) (a1 : KI) : Nat := FA (UK a) (gD a.g a1.k).st
abbrev PH (a : GR) (a1 : KI) : Ln := gD a.r.l (Qc a a1)
abbrev A8 (a : GR) (a1 : KI) : Int := (PH a a1).a0
abbrev tY (a : GR) (a1 : KI) : Int := (PH a a1).b0
abbrev vV (a : GR) (a1 : KI) : Int := (PH a a1).a1
abbrev qD (a : GR) (a1 : KI) : Int := (PH a a1).b1
abbrev wE (a : GR) (a1 : KI) : Rt := DP (PH a a1) (gD a.g a1.k).st
abbrev yR (a : GR) (a1 : KI) : Bool := yZ (wE a a1) (Rt.mk (gD a.g a1.k).lo 1)
abbrev Ok (a : KI) : Nat := a.l.length + 1
abbrev oY (a : KI) (a1 : KI) : Prop := a.l.length = Ok a1
abbrev yO (a : KI) (a1 : KI) : Prop := (↑a.k : Int) = (↑a1.k : Int)
abbrev Pn (a : KI) (a1 : GR) (a2 : KI) : Prop := a.k < a1.g.length /\ GX a1 a = GX a1 a2 /\ wZ a1 a
abbrev oR (a : GR) (a1 : KI) : Prop := ∀ (a_1 : KI), Pn a_1 a a1 -> ∃ (a_3 : KI), mY a a_3 a_1 /\ Nr a a_3 /\ GX a a_3 < GX a a1
theorem BMY (a : GR) : (BLX a) = ((jE a = a.g.length /\ (∀ (i : Nat), i < jE a -> (jQ a i).st = (gD a.g i).st /\ (jQ a i).lo = (gD a.g i).lo /\ (jQ a i).hi = (gD a.g i).hi) /\ jE a <
 1073741824 /\ True) /\ bif X7 a != 0 then RI a /\ RI a /\ EF a = X7 a else (lS a /\ jD a /\ Ml a = a.r.l.length /\ (∀ (i : Nat), i < Ml a -> (WA a i).a0 = (gD a.r.l
 i).a0 /\ (WA a i).a1 = (gD a.r.l i).a1 /\ (WA a i).b0 = (gD a.r.l i).b0 /\ (WA a i).b1 = (gD a.r.l i).b1) /\ zA a /\ Ml a < 1073741824) /\ bif sK a != 0 then RI a /\ RI a /\
 EF a = sK a else (∃ (a_1 : Nat), (JD a /\ IR a /\ JC /\ Pf /\ (↑a_1 : Int) = 0 /\ Nv a) /\ UP a a_1) /\ (∀ (a_1 : Nat), UP a a_1 -> bif decide (tV a_1 a) then
 ((WI a_1 a /\ lS a /\ jD a /\ pZ a a_1 /\ yS a /\ (0 <= (↑(Oq a a_1) : Int) /\ (↑(Oq a a_1) : Int) < (↑a.r.l.length : Int)) /\ WI a_1 a /\ (0 <= B8 a a_1 /\ B8 a
 a_1 < sS a a_1 /\ sS a a_1 <= 2000 /\ 0 <= pY a a_1 /\ pY a a_1 <= qC a a_1 /\ qC a a_1 <= 200000) /\ 0 <= (gD a.g a_1).st /\ (gD a.g a_1).st <= 2000) /\ (WI a_1 a /\ ((!tP a
 a_1) = true -> WI a_1 a)) /\ bif bif tP a a_1 then true else yZ (Rt.mk (gD a.g a_1).hi 1) (tM a a_1) then ((True /\ (0 < 0 -> 0 = 1)) /\ uV /\ (true = true -> Nt) /\ 1 <= 9223372036854775807 /\
 8 <= 140737488355328) /\ ∃ (a_3 : KI), (JD a /\ IR a /\ JC /\ wR a_3 /\ (↑a_3.k : Int) = (↑a_1 : Int) /\ UY a /\ UT a /\ WB a /\ XT a /\ wR a_3 /\ ∀ (i : Nat), i <
 a_3.l.length -> gD a_3.l i = (↑a_1 : Int)) /\ oT a_3 a a_1 else ∃ (a_3 : Nat), (JD a /\ IR a /\ JC /\ Pf /\ (↑a_3 : Int) = (↑a_1 : Int) /\ Nv a) /\ wI a_3 a a_1) /\ (∀ (a_3 : Nat),
 wI a_3 a a_1 -> ∃ (a_5 : Nat), wN a a_5 a_3 /\ UP a a_5 /\ HD a a_5 < HD a a_1) /\ xE a a_1 /\ xE a a_1 else RI a /\ RI a /\ EF a = 0) /\ ∀ (a_1 : KI), Nr a
 a_1 -> bif decide (rO a_1 a) then ((WS a_1 a /\ lS a /\ jD a /\ (gD a.g a_1.k).st = (gD a.g a_1.k).st /\ yS a /\ (0 <= (↑(Qc a a_1) : Int) /\ (↑(Qc a a_1) : Int) < (↑a.r.l.length :
 Int)) /\ WS a_1 a /\ (0 <= A8 a a_1 /\ A8 a a_1 < tY a a_1 /\ tY a a_1 <= 2000 /\ 0 <= vV a a_1 /\ vV a a_1 <= qD a a_1 /\ qD a a_1 <= 200000) /\ 0 <= (gD a.g a_1.k).st /\
 (gD a.g a_1.k).st <= 2000) /\ (WS a_1 a /\ ((!yR a a_1) = true -> WS a_1 a)) /\ bif bif yR a a_1 then true else yZ (Rt.mk (gD a.g a_1.k).hi 1) (wE a a_1) then ((a_1.l.length = a_1.l.length
 /\ (0 < a_1.l.length -> nJ)) /\ uV /\ (false = true -> Nt) /\ Ok a_1 <= 9223372036854775807 /\ Ok a_1 * 8 <= 140737488355328) /\ ∃ (a_3 : KI), (JD a /\ IR a /\ JC /\ oY
 a_3 a_1 /\ yO a_3 a_1 /\ UY a /\ UT a /\ WB a /\ XT a /\ oY a_3 a_1 /\ ∀ (i : Nat), i < a_3.l.length -> gD a_3.l i = bif decide (i < a_1.l.length) then gD a_1.l i else (↑a_1.k : Int)) /\
 Pn a_3 a a_1 else ∃ (a_3 : KI), (JD a /\ IR a /\ JC /\ Lv a_3 a_1 /\ yO a_3 a_1 /\ sW a a_3 a_1) /\ Pn a_3 a a_1) /\ (∀ (a_3 : Nat), a_3 < a.g.length /\ HD a a_3 =
 GX a a_1 /\ tA a a_3 -> ∃ (a_5 : Nat), wN a a_5 a_3 /\ UP a a_5 /\ HD a a_5 < GX a a_1) /\ oR a a_1 /\ oR a a_1 else (OR a).length = a_1.l.length /\ 0 + a_1.l.length <=
 a_1.l.length /\ (∀ (j : Nat), j < (OR a).length -> gD (OR a) j = gD a_1.l (0 + j)) /\ EF a = 0) := by kernel_rfl
theorem BVB (l : List Gau) (h : l.length < 1073741824) : BIS l := by
 rw [BND]; simp only [CC, eq_self, implies_true, forall_const, Int.toNat_zero]
 refine ⟨⟨default, trivial⟩, ⟨λ hlt => ⟨⟨⟨by omega, by omega⟩, by omega, by omega, by omega, by omega, by omega⟩, 1, ⟨rfl, (BH (a := 0) (by omega)).symm, rfl, λ i hi => by rw [show i = 0 by omega]; exact ⟨rfl, rfl, rfl⟩⟩, ⟨by omega, by omega⟩, by omega⟩, λ hge => by omega⟩, λ k ⟨k1, k2⟩ => ⟨λ hlt => ⟨⟨⟨by omega, by omega⟩, by omega, λ h => (by cases h), by omega, by omega⟩, k + 1, ⟨rfl, (BH (by omega)).symm, rfl, λ i hi => ?_⟩, ⟨by omega, by omega⟩, by omega⟩, λ hge => ⟨by omega, Nat.le_refl _⟩⟩⟩
 by_cases e : i < k
 ·rw [decide_eq_true e]; exact ⟨rfl, rfl, rfl⟩
 ·rw [decide_eq_false e, show i = k by omega]; exact ⟨rfl, rfl, rfl⟩
theorem BPH : AG Try.prog AXB (C_Gaus.spec JW) := GD C_Gaus BFZ [] [301] BMX (λ _ => by kernel_rfl) (λ _ => AE) (λ (l : List Gau) h => BVB l (show l.length < 1073741824 /\ True from h).1) (λ _ => GJ rfl rfl) _
theorem AVA : AG Try.prog G3 ARG := EB xL1 hL1 λ x _ => JZ (A := ann 8 []) (ren := []) (fz := []) BKZ (by kernel_rfl) AE (by
 show BCB x; rw [BLY]; simp)
theorem BTY (r : Rtg) (h1 : r.b.length < 1073741824) (h : r.l.length < 1073741824) : BGE r := by
 rw [BQA]; delta AGC Fl AEB NY NK gV kG HO NO ACM Nk qI wB TT Ls Mx pW xD Pd B7 pL UV; simp only [CC, eq_self, implies_true, forall_const, Int.toNat_zero]
 refine ⟨h1, ⟨default, trivial⟩, ⟨λ hlt => ⟨⟨⟨by omega, by omega⟩, by omega, by omega, by omega, by omega, by omega⟩, 1, ⟨(BH (a := 0) (by omega)).symm, rfl, rfl, λ i hi => by rw [show i = 0 by omega]; exact ⟨rfl, rfl, rfl, rfl⟩⟩, ⟨by omega, by omega⟩, by omega⟩, λ hge => by omega⟩, λ k ⟨k1, k2⟩ => ⟨λ hlt => ⟨⟨⟨by omega, by omega⟩, by omega, λ h => (by cases h), by omega, by omega⟩, k + 1, ⟨(BH (by omega)).symm, rfl, rfl, λ i hi => ?_⟩, ⟨by omega, by omega⟩, by omega⟩, λ hge => ⟨by omega, Nat.le_refl _⟩⟩⟩
 by_cases e : i < k
 ·rw [decide_eq_true e]; exact ⟨rfl, rfl, rfl, rfl⟩
 ·rw [decide_eq_false e, show i = k by omega]; exact ⟨rfl, rfl, rfl, rfl⟩
theorem BPU : AG Try.prog AEZ (C_modC.spec dRt1) := GD C_modC BJV [] [301] BEB (λ _ => by kernel_rfl) (λ _ => AB BIY (AB AVA AE)) (λ (r : Rtg) h => BTY r h.1 h.2) (λ _ => GJ rfl rfl) _
theorem BBK {x : Ln} {g : Gau} (hx : HY x) (hg : Dd g) : (bif yZ (DP x g.st) (Rt.mk g.lo 1) then true else yZ (Rt.mk g.hi 1) (DP x g.st)) = !BF x g := by
 obtain ⟨g1, g2, g3, g4, g5⟩ := hg
 have hd := ANC (t := g.st) hx
 have hn := BQZ hx ⟨g1, g2⟩
 have m1 := Int.mul_le_mul_of_nonneg_right (show g.lo <= 200000 by omega) (Int.le_of_lt hd.1)
 have m2 := Int.mul_le_mul_of_nonneg_right g5 (Int.le_of_lt hd.1)
 have m3 := Int.mul_nonneg g3 (Int.le_of_lt hd.1)
 have m4 := Int.mul_nonneg (show 0 <= g.hi by omega) (Int.le_of_lt hd.1)
 unfold yZ BF
 generalize DP x g.st = r at *
 show (bif decide (wr (r.n * 1) < wr (g.lo * r.d)) then true else decide (wr (g.hi * r.d) < wr (r.n * 1))) = _
 rw [Int.mul_one, show wr r.n = r.n from HM (by omega) (by omega), show wr (g.lo * r.d) = g.lo * r.d from HM (by omega) (by omega), show wr (g.hi * r.d) = g.hi * r.d from HM (by omega) (by omega)]
 by_cases c1 : r.n < g.lo * r.d
 ·rw [decide_eq_true c1, decide_eq_false (show ¬g.lo * r.d <= r.n by omega)]; rfl
 ·rw [decide_eq_false c1, decide_eq_true (show g.lo * r.d <= r.n by omega)]
  by_cases c2 : g.hi * r.d < r.n
  ·rw [decide_eq_true c2, decide_eq_false (show ¬r.n <= g.hi * r.d by omega)]; rfl
  ·rw [decide_eq_false c2, decide_eq_true (show r.n <= g.hi * r.d by omega)]; rfl
theorem BUC (a : GR) (h1 : a.g.length < 1073741824) (h2 : a.r.b.length < 1073741824) (h3 : a.r.l.length < 1073741824) : BLX a := by
 rw [BMY]; delta lU jE jQ X7 RI UK kU lS jD fB Ml WA zA sK JD pZ IR JC Pf UY UT WB XT Nv UP tV WI yS Oq PF B8 sS pY qC tM tP Nt nJ uV wR GX HD uD wZ oT zQ tA wI wN Lv sW mY Nr xE rO WS Qc PH A8 tY vV qD wE yR Ok oY yO Pn oR; simp only [CC, eq_self, implies_true, forall_const]
 rw [show Rtg.mk a.r.b a.r.l = a.r from rfl]
 have em : ¬EF a = 0 -> OR a = [] := λ h => by unfold OR; rw [show (EF a == 0) = false by simpa using h]; rfl
 have facts : EF a = 0 -> AK a.g = 0 /\ okRt a.r := λ h => by
  unfold EF at h
  cases hc : AK a.g == 0 with
  | false => rw [hc] at h; have h : AK a.g = 0 := h; rw [h] at hc; cases hc
  | true => rw [hc] at h; exact ⟨by simpa using hc, (Lj h).1⟩
 have pre : ∀ {k : Nat}, EF a = 0 -> k < a.g.length -> (0 <= ((FA a.r.b (gD a.g k).st : Nat) : Int) /\ ((FA a.r.b (gD a.g k).st : Nat) : Int) < a.r.l.length) /\ HY (gD a.r.l (FA a.r.b (gD a.g k).st)) /\ Dd (gD a.g k) := λ {k} h hk => by
  obtain ⟨f1, f2, f3, f4, f5⟩ := facts h
  have hle : FA a.r.b (gD a.g k).st <= a.r.b.length := List.countP_le_length
  exact ⟨⟨by omega, by omega⟩, f4 _ (EG (by omega)), (Gz f1).2 _ (EG hk)⟩
 have cn : ∀ (m i : Nat), i < a.g.length /\ a.g.length - i = m /\ psI a (i + 1) [] -> ∃ j : Nat, (j : Int) = IntKind.i64.wrap ((i : Int) + 1) /\ psI a j [] /\ a.g.length - j < m := λ m i ⟨b1, b2, b3⟩ => ⟨i + 1, (BH (by omega)).symm, b3, by omega⟩
 have co : ∀ (m : Nat) (x : KI), x.k < a.g.length /\ a.g.length - x.k = m /\ psI a (x.k + 1) x.l -> ∃ y : KI, (y.l.length = x.l.length /\ (y.k : Int) = IntKind.i64.wrap ((x.k : Int) + 1) /\ y.l.length = x.l.length /\ ∀ i, i < y.l.length -> gD y.l i = gD x.l i) /\ psI a y.k y.l /\ a.g.length - y.k < m := λ m x ⟨b1, b2, b3⟩ => ⟨⟨x.k + 1, x.l⟩, ⟨rfl, (BH (by omega)).symm, rfl, λ _ _ => rfl⟩, b3, by show a.g.length - (x.k + 1) < m; omega⟩
 have fin : ∀ {l : List Int}, EF a = 0 -> l = SF a a.g.length -> OR a = l := λ {l} h1 h2 => by unfold OR; rw [h1, h2]; rfl
 refine ⟨h1, λ hc => ?_, λ hc => ⟨⟨h2, h3⟩, λ hr => ?_, λ hr => ?_⟩⟩
 ·have e : EF a = AK a.g := by unfold EF; rw [show (AK a.g == 0) = false by simpa using hc]; rfl
  rw [em (by rw [e]; simpa using hc)]; exact ⟨rfl, rfl, e⟩
 ·have e : EF a = AZ a.r := by unfold EF; rw [show (AK a.g == 0) = true by simpa using hc]; rfl
  rw [em (by rw [e]; simpa using hr)]; exact ⟨rfl, rfl, e⟩
 ·have e : EF a = 0 := by
   unfold EF; rw [show (AK a.g == 0) = true by simpa using hc]; simpa using hr
  refine ⟨⟨0, rfl, e, Nat.zero_le _, rfl⟩, λ k ⟨k1, k2, k3⟩ => ⟨λ hlt => ?_, λ hge => ?_⟩, λ x ⟨x1, x2, x3⟩ => ⟨λ hlt => ?_, λ hge => ?_⟩⟩
  ·have hk : k < a.g.length := by omega
   obtain ⟨p1, p2, p3⟩ := pre k1 hk
   rw [BBK p2 p3]
   refine ⟨⟨⟨⟨by omega, by omega⟩, h2, p1, ⟨by omega, by omega⟩, p2, p3.1, p3.2.1⟩, ⟨⟨by omega, by omega⟩, λ _ => ⟨by omega, by omega⟩⟩, λ hp => ⟨⟨by omega, by omega, by omega, by omega, by omega⟩, ⟨k, [(k : Int)]⟩, ⟨rfl, rfl, rfl, λ i hi => by rw [show i = 0 by have h1 : i < 1 := hi; omega]; rfl⟩, hk, rfl, k1, hk, ?_⟩, λ hp => ⟨k, rfl, hk, rfl, k1, hk, ?_⟩⟩, cn _, co _⟩
   ·show [(k : Int)] = SF a (k + 1)
    rw [IU, if_pos (show zT a k = true from hp), <- k3]; rfl
   ·rw [IU, if_neg (show ¬zT a k = true by unfold zT; rw [hp]; simp)]; exact k3
  ·have ee : OR a = [] := fin k1 (by rw [k3, show k = a.g.length by omega])
   rw [ee]; exact ⟨rfl, rfl, k1⟩
  ·have hk : x.k < a.g.length := by omega
   have hxl := gM a x.k
   rw [<- x3] at hxl
   obtain ⟨p1, p2, p3⟩ := pre x1 hk
   rw [BBK p2 p3]
   refine ⟨⟨⟨⟨by omega, by omega⟩, h2, p1, ⟨by omega, by omega⟩, p2, p3.1, p3.2.1⟩, ⟨⟨by omega, by omega⟩, λ _ => ⟨by omega, by omega⟩⟩, λ hp => ⟨⟨by omega, λ h => (by cases h), by omega, by omega⟩, ⟨x.k, x.l ++ [(x.k : Int)]⟩, ⟨by simp, rfl, by simp, BIE _ _⟩, hk, rfl, x1, hk, ?_⟩, λ hp => ⟨⟨x.k, x.l⟩, ⟨rfl, rfl, rfl, λ _ _ => rfl⟩, hk, rfl, x1, hk, ?_⟩⟩, cn _, co _⟩
   ·show x.l ++ _ = SF a (x.k + 1)
    rw [IU, if_pos (show zT a x.k = true from hp), <- x3]
   ·show x.l = SF a (x.k + 1)
    rw [IU, if_neg (show ¬zT a x.k = true by unfold zT; rw [hp]; simp)]; exact x3
  ·have ee : OR a = x.l := fin x1 (by rw [x3, show x.k = a.g.length by omega])
   rw [ee]; exact ⟨rfl, Nat.le_refl _, λ _ _ => rfl, x1⟩
theorem BNY : AG Try.prog AVM (C_Passes.spec dGR) := GD C_Passes BJF [] [301] BPA (λ _ => by kernel_rfl) (λ _ => AB AJO (AB AIS (AB AVB (AB ANV (AB BBD AE))))) (λ (a : GR) h => BUC a h.1 h.2.1 h.2.2) (λ _ => GJ rfl rfl) _
end Go.Bal
