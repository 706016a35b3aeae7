/- TopOwed: lanes: what is inner; one line more goes from a side. -/
import Derived.Test.YtgjkmndbkidgjaaGreatOwJ
set_option linter.unusedVariables false
set_option linter.unusedSimpArgs false
namespace Go.Bal
open Go Go.Sym Go.Proofs
structure Rm where
 h : Int -> Bool
 g : Int -> Int
 s : Int -> Int
structure Ln where
 l : List Wk
 v : List Int
 w : Int
 r : Rm
 m : Int -> Bool
def zB : Value := .bool false
def rmO (r : Rm) : AObj := .imap .pair zI r.h (λ n => .v (.int .i64 (r.g n))) r.s none
def mtO (m : Int -> Bool) : AObj := .kmap (.int .i64) zB m λ n => .v (.bool (m n))
def lnB (a : Ln) (o : Nat) : AObj := .box [.bptr (o + 1) 0, .d (AF a.v), .int a.w, .mref (o + 2), .mref (o + 3)]
def lnL (a : Ln) (o : Nat) : List (Nat × AObj) := [(o, lnB a o), (o + 1, HY a.l), (o + 2, rmO a.r), (o + 3, mtO a.m)]
def lnK (a : Ln) (o : Nat) : List (Nat × HCell) := [(o, .live (lnB a o)), (o + 1, .live (HY a.l)), (o + 2, .live (rmO a.r)), (o + 3, .live (mtO a.m))]
def BDG (H : Heap) (id : Nat) : Option (Ln × List (Nat × Nat)) := match H id with
 | .live (.box [.bptr p _, .d (.list _ n g _), .d (.v (.int _ w)), .mref r, .mref m]) => match JC H p, H r, H m with
  | some l, .live (.imap _ _ h gg s _), .live (.kmap _ _ mm _) => some (⟨l, AJ n λ i => CR (g i), w, ⟨h, λ n => CR (gg n), s⟩, mm⟩, [(100, id), (101, p), (102, r), (103, m)])
  | _, _, _ => none
 | _ => none
structure LnI where
 a : Ln
 i : Int
def rS : List AVal -> Heap -> Option (LnI × List (Nat × Nat) × List Nat)
 | [.bptr p _, .d x], H => match BDG H p with
  | some (a, q) => some (⟨a, CR x⟩, q, [])
  | none => none
 | _, _ => none
def innM (v : List Int) (w i : Int) : Bool := bif i != w then !CK v i else false
def C_inner : Ctr := { ro := [100, 101, 102, 103], α := LnI, xs := λ x => [.bptr 100 0, .int x.i], L := λ x => lnL x.a 100, val := λ x => .bool (innM x.a.v x.a.w x.i), keep := λ x => lnK x.a 100, pre := λ x => [x.a.v.length = 1] }
def AIY : Ann := { ann 20 [(OO, rK)] with E := [100, 101, 102, 103] }
def AHX (x : LnI) : Prop := BB Try.prog AIY E7 (AS E7) (C_inner.xs x) (AK (C_inner.L x)) (C_inner.val x) (C_inner.keep x) [] []
theorem AMJ (x : LnI) : (AHX x) = (((x.i != x.a.w) = true -> (AJ x.a.v.length λ (i : Nat) => gD x.a.v i).length = x.a.v.length /\ (∀ (i : Nat), i < (AJ x.a.v.length λ (i : Nat) => gD x.a.v i).length -> gD
 (AJ x.a.v.length λ (i : Nat) => gD x.a.v i) i = gD x.a.v i) /\ x.i = x.i /\ (AJ x.a.v.length λ (i : Nat) => gD x.a.v i).length.succ.le 4611686018427387904) /\ (innM x.a.v x.a.w x.i = bif x.i != x.a.w then !CK (AJ
 x.a.v.length λ (i : Nat) => gD x.a.v i) x.i else false) /\ x.a.v.length = x.a.v.length /\ (∀ (i : Nat), i < x.a.v.length -> gD x.a.v i = gD x.a.v i) /\ x.a.w = x.a.w /\ x.a.l.length = x.a.l.length /\ (∀ (i : Nat), i <
 x.a.l.length -> (gD x.a.l i).of.length = (gD x.a.l i).of.length /\ (∀ (i_1 : Nat), i_1 < (gD x.a.l i).of.length -> gD (gD x.a.l i).of i_1 = gD (gD x.a.l i).of i_1) /\ (gD x.a.l i).ba = (gD x.a.l i).ba /\ (gD x.a.l i).mi = (gD
 x.a.l i).mi) /\ zI = zI /\ (∀ (n : Int), x.a.r.h n = x.a.r.h n) /\ (∀ (n : Int), x.a.r.s n = x.a.r.s n) /\ (∀ (n : Int), x.a.r.g n = x.a.r.g n) /\ zB = zB /\ (∀ (n : Int), x.a.m n = x.a.m n) /\ ∀ (n : Int), x.a.m n = x.a.m n)
 := by kernel_rfl
def cod (a b : Int) : Int := a * 4294967296 + b
def Rm.put (r : Rm) (c v : Int) : Rm := ⟨BU r.h c, λ j => bif decide (j = c) then v else r.g j, ME r.h r.s c⟩
structure GS where
 r : Rm
 m : Int -> Bool
def gS0 : GS := ⟨⟨λ _ => false, λ _ => 0, λ _ => 0⟩, λ _ => false⟩
instance : Inhabited GS := ⟨gS0⟩
def AEB (at' to : Int) (s : GS) : GS := ⟨(s.r.put (cod at' to) (wr (s.r.g (cod at' to) - 1))).put (cod to at') (wr ((s.r.put (cod at' to) (wr (s.r.g (cod at' to) - 1))).g (cod to at') + 1)), s.m⟩
def goL (rec' : Int -> GS -> Option (Bool × GS)) (at' : Int) : Nat -> Nat -> GS -> Option (Bool × GS)
 | 0, _, s => some (false, s)
 | c + 1, to, s => bif (bif decide (0 < s.r.g (cod at' to)) then !s.m to else false) then
   match rec' to s with
   | none => none
   | some (true, s') => some (true, AEB at' to s')
   | some (false, s') => goL rec' at' c (to + 1) s'
  else goL rec' at' c (to + 1) s
def wV (n : Nat) (w : Int) : Nat -> Int -> GS -> Option (Bool × GS)
 | 0, _, _ => none
 | f + 1, at', s => bif at' == 2 * w then some (true, s) else goL (wV n w f) at' (2 * n) 0 ⟨s.r, λ j => decide (j = at') || s.m j⟩
def LnI.gs (x : LnI) : GS := ⟨x.a.r, x.a.m⟩
def LnI.with (x : LnI) (s : GS) : Ln := ⟨x.a.l, x.a.v, x.a.w, s.r, s.m⟩
def LnI.res (f : Nat) (x : LnI) : Bool × GS := (wV x.a.l.length x.a.w f x.i x.gs).getD default
structure GoOk (f : Nat) (x : LnI) : Prop where
 n : 1 <= x.a.l.length /\ x.a.l.length <= 30
 w : 0 <= x.a.w /\ x.a.w < x.a.l.length
 i : 0 <= x.i /\ x.i < 2 * x.a.l.length
 some : (wV x.a.l.length x.a.w f x.i x.gs).isSome = true
def wI (f : Nat) : Ctr := { α := LnI, xs := λ x => [.bptr 100 0, .int x.i], L := λ x => lnL x.a 100, val := λ x => .bool (x.res f).1, keep := λ x => lnK (x.with (x.res f).2) 100, pre := λ x => [GoOk f x] }
structure KG where
 k : Nat
 s : GS
 deriving Inhabited
def go5 (f : Nat) (x : LnI) : Shape := { α := KG, dflt := default, T := λ q => ⟨[(0, .bptr 100 0), (1, .int x.i), (27, .int (wr (2 * x.a.l.length))), (28, .int q.k)], lnK (x.with q.s) 100⟩, inv := λ q => q.k <= 2 * x.a.l.length /\ goL (wV x.a.l.length x.a.w f) x.i (2 * x.a.l.length - q.k) q.k q.s = wV x.a.l.length x.a.w (f + 1) x.i x.gs /\ (x.i == 2 * x.a.w) = false, meas := λ q => 2 * x.a.l.length - q.k }
def A_go (f : Nat) (x : LnI) : Ann := { ann 77 [(AAH, (wI f).spec rS)] with E := [100, 101, 102, 103], md := λ id => if id = 7 then some (λ k => if k <= 9 || k == 17 || k == 18 || k == 22 then 0 else 10) else none, loops := λ id => if id = 5 then some [go5 f x] else none }
def V_go (f : Nat) (x : LnI) : Prop := BB Try.prog (A_go f x) AMT (AS AMT) ((wI (f + 1)).xs x) (AK ((wI (f + 1)).L x)) ((wI (f + 1)).val x) ((wI (f + 1)).keep x) [] []
abbrev ACW (x : LnI) : Int := 2 * x.a.w
abbrev ACU (f : Nat) : Nat := f + 1
abbrev ACD (f : Nat) (x : LnI) : Bool × GS := LnI.res (ACU f) x
abbrev ACP (f : Nat) (x : LnI) : Bool := (ACD f x).fst
abbrev ACE (f : Nat) (x : LnI) : Prop := ACP f x = true
abbrev Zl (x : LnI) (f : Nat) : Ln := x.with (ACD f x).snd
abbrev ADE (x : LnI) (f : Nat) : List Int := (Zl x f).v
abbrev uL (x : LnI) (f : Nat) : Nat := (ADE x f).length
abbrev K4 (i : Nat) (x : LnI) (f : Nat) : Prop := i < uL x f
abbrev M2 (x : LnI) (f : Nat) (i : Nat) : Int := gD (ADE x f) i
abbrev jG (x : LnI) (f : Nat) : Int := (Zl x f).w
abbrev A3 (x : LnI) (f : Nat) : List Wk := (Zl x f).l
abbrev Uz (x : LnI) (f : Nat) : Nat := (A3 x f).length
abbrev kH (i : Nat) (x : LnI) (f : Nat) : Prop := i < Uz x f
abbrev gP (x : LnI) (f : Nat) (i : Nat) : Wk := gD (A3 x f) i
abbrev O3 (x : LnI) (f : Nat) (i : Nat) : List Int := (gP x f i).of
abbrev Yc (x : LnI) (f : Nat) (i : Nat) : Nat := (O3 x f i).length
abbrev W6 (x : LnI) (i : Nat) : Nat := (gD x.a.l i).of.length
abbrev lE (i : Nat) (x : LnI) (f : Nat) (i1 : Nat) : Prop := i < Yc x f i1
abbrev iY (x : LnI) (f : Nat) (i : Nat) (i1 : Nat) : Int := gD (O3 x f i) i1
abbrev I9 (x : LnI) (i : Nat) (i1 : Nat) : Int := gD (gD x.a.l i).of i1
abbrev jR (x : LnI) (f : Nat) (i : Nat) : Int := (gP x f i).ba
abbrev lJ (x : LnI) (f : Nat) (i : Nat) : Int := (gP x f i).mi
abbrev lG (x : LnI) (f : Nat) : Rm := (Zl x f).r
abbrev gV (x : LnI) (f : Nat) (n : Int) : Bool := (lG x f).h n
abbrev mD (x : LnI) (f : Nat) (n : Int) : Int := (lG x f).s n
abbrev jE (x : LnI) (f : Nat) (n : Int) : Int := (lG x f).g n
abbrev kQ (x : LnI) (f : Nat) (n : Int) : Bool := (Zl x f).m n
abbrev zE (x : LnI) (f : Nat) : Prop := ∀ (n : Int), kQ x f n = x.a.m n
abbrev Q7 (x : LnI) : Int := 2 * (↑x.a.l.length : Int)
abbrev Wr (x : LnI) : Int := wr (Q7 x)
abbrev iX (i : Nat) (x : LnI) (a : KG) : Prop := i < (x.with a.s).v.length
abbrev mK (i : Nat) (x : LnI) (a : KG) : Prop := i < (x.with a.s).l.length
abbrev D0 (x : LnI) (a : KG) (i : Nat) : List Int := (gD (x.with a.s).l i).of
abbrev PY (x : LnI) (a : KG) (i : Nat) : Nat := (D0 x a i).length
abbrev jV (i : Nat) (x : LnI) (a : KG) (i1 : Nat) : Prop := i < PY x a i1
abbrev TT (x : LnI) (a : KG) (i : Nat) (i1 : Nat) : Int := gD (D0 x a i) i1
abbrev VL (x : LnI) (a : KG) (i : Nat) : Int := (gD (x.with a.s).l i).ba
abbrev WL (x : LnI) (a : KG) (i : Nat) : Int := (gD (x.with a.s).l i).mi
abbrev zO (x : LnI) : Nat := 2 * x.a.l.length
abbrev iP (x : LnI) (a : KG) : Nat := zO x - a.k
abbrev lL (a : KG) (x : LnI) (f : Nat) : Prop := a.k <= zO x /\ goL (wV x.a.l.length x.a.w f) x.i (iP x a) a.k a.s = wV x.a.l.length x.a.w (ACU f) x.i x.gs /\ (x.i == ACW x) = false
abbrev Bv : Prop := Value.int IntKind.i64 0 = zI
abbrev lW (a : KG) : Prop := 0 <= (↑a.k : Int)
abbrev P6 (a : KG) : Int := (↑a.k : Int) + 1
abbrev FD (x : LnI) (a : KG) : Int := x.i * 4294967296 + (↑a.k : Int)
abbrev jM (x : LnI) (a : KG) : List Int := AJ (x.with a.s).v.length λ (i : Nat) => gD (x.with a.s).v i
abbrev G8 (x : LnI) (a : KG) : Nat := (jM x a).length
abbrev iG (x : LnI) (a : KG) : List Wk := AJ (x.with a.s).l.length λ (i : Nat) => BE (BK (gD (x.with a.s).l i))
abbrev D7 (x : LnI) (a : KG) : Nat := (iG x a).length
abbrev lP (x : LnI) (a : KG) (i : Nat) : Wk := gD (iG x a) i
abbrev K2 (x : LnI) (a : KG) (i : Nat) : List Int := (lP x a i).of
abbrev I5 (x : LnI) (a : KG) (i : Nat) : Nat := (K2 x a i).length
abbrev M8 (x : LnI) (a : KG) : Prop := ∀ (n : Int), (x.with a.s).m n = (x.with a.s).m n
abbrev iR (x : LnI) (a : KG) : LnI := LnI.mk (Ln.mk (iG x a) (jM x a) (x.with a.s).w (Rm.mk (x.with a.s).r.h (λ (n : Int) => (x.with a.s).r.g n) (x.with a.s).r.s) (x.with a.s).m) (↑a.k : Int)
abbrev Q4 (f : Nat) (x : LnI) (a : KG) : Bool × GS := LnI.res f (iR x a)
abbrev N0 (a : KG) : Prop := (↑a.k : Int) < 4294967296
abbrev Cu (x : LnI) (a : KG) (f : Nat) : Ln := (iR x a).with (Q4 f x a).snd
abbrev EE (x : LnI) (a : KG) (f : Nat) : Rm := (Cu x a f).r
abbrev yO (x : LnI) : Prop := 0 <= x.i
abbrev yM (x : LnI) : Prop := x.i < 4294967296
abbrev JI (a : KG) (x : LnI) : Int := (↑a.k : Int) * 4294967296 + x.i
abbrev B8 (x : LnI) (a : KG) (f : Nat) : List Int := (Cu x a f).v
abbrev D5 (x : LnI) (a : KG) (f : Nat) : Nat := (B8 x a f).length
abbrev J8 (x : LnI) (a : KG) (f : Nat) (i : Nat) : Int := gD (B8 x a f) i
abbrev F5 (x : LnI) (a : KG) (f : Nat) : Int := (Cu x a f).w
abbrev R5 (x : LnI) (a : KG) (f : Nat) : List Wk := (Cu x a f).l
abbrev F0 (x : LnI) (a : KG) (f : Nat) : Nat := (R5 x a f).length
abbrev gO (x : LnI) (a : KG) (f : Nat) (i : Nat) : Wk := gD (R5 x a f) i
abbrev F9 (x : LnI) (a : KG) (f : Nat) (i : Nat) : List Int := (gO x a f i).of
abbrev D6 (x : LnI) (a : KG) (f : Nat) (i : Nat) : Nat := (F9 x a f i).length
abbrev H3 (x : LnI) (a : KG) (f : Nat) (i : Nat) (i1 : Nat) : Int := gD (F9 x a f i) i1
abbrev zA (x : LnI) (a : KG) (f : Nat) (i : Nat) : Int := (gO x a f i).ba
abbrev K3 (x : LnI) (a : KG) (f : Nat) (i : Nat) : Int := (gO x a f i).mi
abbrev U7 (x : LnI) (a : KG) (f : Nat) : Int := IntKind.i64.wrap ((EE x a f).g (FD x a) - 1)
abbrev M5 (x : LnI) (a : KG) (f : Nat) (n : Int) : Int := (EE x a f).g n
abbrev J4 (x : LnI) (a : KG) (f : Nat) (n : Int) : Bool := (Cu x a f).m n
abbrev Q0 (x : LnI) (f : Nat) (a : KG) : Prop := ∀ (n : Int), kQ x f n = J4 x a f n
abbrev yI (x : LnI) : Prop := Wr x = Wr x
abbrev O7 (a : KG) (a1 : KG) : Prop := (↑a.k : Int) = IntKind.i64.wrap (P6 a1)
abbrev zH (x : LnI) (a : KG) (a1 : KG) (f : Nat) : Prop := ∀ (n : Int), (x.with a.s).m n = J4 x a1 f n
abbrev R4 (a : KG) (x : LnI) (f : Nat) (a1 : KG) : Prop := lL a x f /\ iP x a < iP x a1
abbrev A2 (x : LnI) (a : KG) (a1 : KG) : Prop := ∀ (n : Int), (x.with a.s).m n = (x.with a1.s).m n
abbrev U6 (x : LnI) (a : KG) (f : Nat) : Prop := (false = true -> false = true) /\ ∃ (a_1 : KG), (x.i = x.i /\ yI x /\ O7 a_1 a /\ (x.with a_1.s).v.length = (x.with a.s).v.length /\ (∀ (i : Nat), iX i x a_1
 -> gD (x.with a_1.s).v i = gD (x.with a.s).v i) /\ (x.with a_1.s).w = (x.with a.s).w /\ (x.with a_1.s).l.length = (x.with a.s).l.length /\ (∀ (i : Nat), mK i x a_1 -> PY x a_1 i = PY x a i /\ (∀ (i_1 : Nat),
 jV i_1 x a_1 i -> TT x a_1 i i_1 = TT x a i i_1) /\ VL x a_1 i = VL x a i /\ WL x a_1 i = WL x a i) /\ zI = zI /\ (∀ (n : Int), (x.with a_1.s).r.h n = (x.with a.s).r.h n) /\ (∀ (n : Int),
 (x.with a_1.s).r.s n = (x.with a.s).r.s n) /\ (∀ (n : Int), (x.with a_1.s).r.g n = (x.with a.s).r.g n) /\ zB = zB /\ A2 x a_1 a /\ A2 x a_1 a) /\ R4 a_1 x f a
abbrev D4 (x : LnI) (f : Nat) (a : KG) : Prop := ∀ (n : Int), kQ x f n = (x.with a.s).m n
theorem BGY (f : Nat) (x : LnI) : (V_go f x) = (bif x.i == IntKind.i64.wrap (ACW x) then ACE f x /\ uL x f = x.a.v.length /\ (∀ (i : Nat), K4 i x f -> M2 x f i = gD x.a.v i) /\ jG x f = x.a.w /\
 Uz x f = x.a.l.length /\ (∀ (i : Nat), kH i x f -> Yc x f i = W6 x i /\ (∀ (i_1 : Nat), lE i_1 x f i -> iY x f i i_1 = I9 x i i_1) /\ jR x f i = (gD x.a.l i).ba /\ lJ x f i = (gD
 x.a.l i).mi) /\ zI = zI /\ (∀ (n : Int), gV x f n = x.a.r.h n) /\ (∀ (n : Int), mD x f n = x.a.r.s n) /\ (∀ (n : Int), jE x f n = x.a.r.g n) /\ zB = zB /\ zE x f /\ zE x f else (∃ (a : KG), (x.i = x.i /\
 Wr x = IntKind.i64.wrap (Q7 x) /\ (↑a.k : Int) = 0 /\ (x.with a.s).v.length = x.a.v.length /\ (∀ (i : Nat), iX i x a -> gD (x.with a.s).v i = gD x.a.v i) /\ (x.with a.s).w = x.a.w /\ (x.with a.s).l.length =
 x.a.l.length /\ (∀ (i : Nat), mK i x a -> PY x a i = W6 x i /\ (∀ (i_1 : Nat), jV i_1 x a i -> TT x a i i_1 = I9 x i i_1) /\ VL x a i = (gD x.a.l i).ba /\ WL x a i = (gD x.a.l i).mi) /\
 zI = zI /\ (∀ (n : Int), (x.with a.s).r.h n = x.a.r.h n) /\ (∀ (n : Int), (x.with a.s).r.s n = x.a.r.s n) /\ (∀ (n : Int), (x.with a.s).r.g n = x.a.r.g n) /\ zB = zB /\ (∀ (n : Int), (x.with a.s).m n = BU x.a.m x.i n) /\ ∀
 (n : Int), (x.with a.s).m n = bif decide (n = x.i) then true else x.a.m n) /\ lL a x f) /\ ∀ (a : KG), lL a x f -> bif decide ((↑a.k : Int) < Wr x) then (Bv /\ lW a /\ (4294967296 - P6 a).NonNeg)
 /\ bif decide ((x.with a.s).r.g (FD x a) > 0) then Value.bool false = zB /\ bif bif true then !(x.with a.s).m (↑a.k : Int) else false then ((↑a.k : Int) = (↑a.k : Int) /\ G8 x a = (x.with a.s).v.length /\ (∀ (i :
 Nat), i < G8 x a -> gD (jM x a) i = gD (x.with a.s).v i) /\ (x.with a.s).w = (x.with a.s).w /\ D7 x a = (x.with a.s).l.length /\ (∀ (i : Nat), i < D7 x a -> I5 x a i = PY x a i /\ (∀ (i_1 : Nat),
 i_1 < I5 x a i -> gD (K2 x a i) i_1 = TT x a i i_1) /\ (lP x a i).ba = VL x a i /\ (lP x a i).mi = WL x a i) /\ zI = zI /\ (∀ (n : Int), (x.with a.s).r.h n = (x.with a.s).r.h n) /\ (∀ (n :
 Int), (x.with a.s).r.s n = (x.with a.s).r.s n) /\ (∀ (n : Int), (x.with a.s).r.g n = (x.with a.s).r.g n) /\ zB = zB /\ M8 x a /\ M8 x a /\ GoOk f (iR x a)) /\ bif bif true then (Q4 f x a).fst else false
 then (Bv /\ lW a /\ N0 a /\ Bv /\ lW a /\ N0 a /\ BU (EE x a f).h (FD x a) (FD x a) = true /\ (EE x a f).s (FD x a) = ME (EE x a f).h (EE x a f).s (FD x
 a) (FD x a)) /\ (Bv /\ yO x /\ yM x /\ Bv /\ yO x /\ yM x /\ BU (BU (EE x a f).h (FD x a)) (JI a x) (JI a x) = true /\ ME (EE x a f).h (EE x a f).s
 (FD x a) (JI a x) = ME (BU (EE x a f).h (FD x a)) (ME (EE x a f).h (EE x a f).s (FD x a)) (JI a x) (JI a x)) /\ ACE f x /\ uL x f = D5 x a f /\ (∀ (i : Nat),
 K4 i x f -> M2 x f i = J8 x a f i) /\ jG x f = F5 x a f /\ Uz x f = F0 x a f /\ (∀ (i : Nat), kH i x f -> Yc x f i = D6 x a f i /\ (∀ (i_1 : Nat), lE i_1 x f i -> iY x f
 i i_1 = H3 x a f i i_1) /\ jR x f i = zA x a f i /\ lJ x f i = K3 x a f i) /\ zI = zI /\ (∀ (n : Int), gV x f n = BU (BU (EE x a f).h (FD x a)) (JI a x) n) /\ (∀ (n : Int),
 mD x f n = ME (BU (EE x a f).h (FD x a)) (ME (EE x a f).h (EE x a f).s (FD x a)) (JI a x) n) /\ (∀ (n : Int), jE x f n = bif decide (n = JI a x) then IntKind.i64.wrap
 ((bif decide (JI a x = FD x a) then U7 x a f else (EE x a f).g (JI a x)) + 1) else bif decide (n = FD x a) then U7 x a f else M5 x a f n) /\ zB = zB /\ Q0 x f a /\ Q0 x f a
 else ∃ (a_2 : KG), (x.i = x.i /\ yI x /\ O7 a_2 a /\ (x.with a_2.s).v.length = D5 x a f /\ (∀ (i : Nat), iX i x a_2 -> gD (x.with a_2.s).v i = J8 x a f i) /\ (x.with a_2.s).w = F5 x a f /\ (x.with
 a_2.s).l.length = F0 x a f /\ (∀ (i : Nat), mK i x a_2 -> PY x a_2 i = D6 x a f i /\ (∀ (i_1 : Nat), jV i_1 x a_2 i -> TT x a_2 i i_1 = H3 x a f i i_1) /\ VL x a_2 i = zA x a f i /\
 WL x a_2 i = K3 x a f i) /\ zI = zI /\ (∀ (n : Int), (x.with a_2.s).r.h n = (EE x a f).h n) /\ (∀ (n : Int), (x.with a_2.s).r.s n = (EE x a f).s n) /\ (∀ (n : Int), (x.with a_2.s).r.g n = M5 x a f n)
 /\ zB = zB /\ zH x a_2 a f /\ zH x a_2 a f) /\ R4 a_2 x f a else U6 x a f else (false = true -> false = true) /\ U6 x a f else ACP f x = false /\ uL x f = (x.with a.s).v.length /\ (∀ (i : Nat),
 K4 i x f -> M2 x f i = gD (x.with a.s).v i) /\ jG x f = (x.with a.s).w /\ Uz x f = (x.with a.s).l.length /\ (∀ (i : Nat), kH i x f -> Yc x f i = PY x a i /\ (∀ (i_1 : Nat), lE i_1 x f i ->
 iY x f i i_1 = TT x a i i_1) /\ jR x f i = VL x a i /\ lJ x f i = WL x a i) /\ zI = zI /\ (∀ (n : Int), gV x f n = (x.with a.s).r.h n) /\ (∀ (n : Int), mD x f n = (x.with a.s).r.s n) /\
 (∀ (n : Int), jE x f n = (x.with a.s).r.g n) /\ zB = zB /\ D4 x f a /\ D4 x f a) := by kernel_rfl
theorem AGO (x : LnI) (s : GS) : (x.with s).l = x.a.l := rfl
theorem AGG (x : LnI) (s : GS) : (x.with s).v = x.a.v := rfl
theorem ACI (x : LnI) (s : GS) : (x.with s).w = x.a.w := rfl
theorem AGJ (x : LnI) (s : GS) : (x.with s).r = s.r := rfl
theorem AFQ (x : LnI) (s : GS) : (x.with s).m = s.m := rfl
theorem BCU (x : LnI) (s : GS) (k : Int) : LnI.mk (Ln.mk x.a.l x.a.v x.a.w s.r s.m) k = ⟨x.with s, k⟩ := rfl
theorem qX (r : Rm) : Rm.mk r.h (λ n => r.g n) r.s = r := rfl
theorem yB (h : Int -> Bool) (t : Int -> Int) (c : Int) : ME h t c c = t c := by
 unfold ME; cases h c <;> simp
theorem mZ (h : Int -> Bool) (c : Int) : BU h c c = true := by simp [BU]
theorem ANJ (rec' : Int -> GS -> Option (Bool × GS)) (at' : Int) (c to : Nat) (s : GS) : goL rec' at' (c + 1) to s = bif (bif decide (0 < s.r.g (cod at' to)) then !s.m to else false) then
   match rec' to s with
   | none => none
   | some (true, s') => some (true, AEB at' to s')
   | some (false, s') => goL rec' at' c (to + 1) s'
  else goL rec' at' c (to + 1) s := rfl
theorem p_go (f : Nat) (x : LnI) (h : GoOk (f + 1) x) : V_go f x := by
 obtain ⟨hn, hw, hi, hsome⟩ := h
 have hw2 : IntKind.i64.wrap (2 * x.a.w) = 2 * x.a.w := JA (by omega) (by omega)
 have hn2 : wr (2 * (x.a.l.length : Int)) = 2 * (x.a.l.length : Int) := JA (by omega) (by omega)
 have hn3 : IntKind.i64.wrap (2 * (x.a.l.length : Int)) = 2 * (x.a.l.length : Int) := hn2
 rw [BGY]; delta ACW ACU ACD ACP ACE Zl ADE uL K4 M2 jG A3 Uz kH gP O3 Yc W6 lE iY I9 jR lJ lG gV mD jE kQ zE Q7 Wr iX mK D0 PY jV TT VL WL zO iP lL Bv lW P6 FD jM G8 iG D7 lP K2 I5 M8 iR Q4 N0 Cu EE yO yM JI B8 D5 J8 F5 R5 F0 gO F9 D6 H3 zA K3 U7 M5 J4 Q0 yI O7 zH R4 A2 U6 D4
 simp only [BF, eq_self, implies_true, and_self, true_and, and_true, true_implies, forall_const, decide_eq_true_eq, decide_eq_false_iff_not, Int.toNat_natCast, dSpan_eSpan, dInt_eInt, AV, BH, BJ, BC, AZ, AX, AY, Nat.zero_add, Int.zero_sub, Nat.le_eq, Nat.succ_eq_add_one, Nat.add_one_le_iff, Bool.not_eq_true', Bool.not_eq_false', rng_length, AT, AP, AGO, AGG, ACI, AGJ, AFQ, qX, BCU, hw2, hn2, hn3]
 refine ⟨λ h0 => ?_, λ h0 => ⟨⟨⟨0, ⟨x.a.r, λ j => decide (j = x.i) || x.a.m j⟩⟩, ⟨rfl, λ _ => rfl, λ _ => rfl, λ _ => rfl, λ _ => rfl, λ n => ?_⟩, Nat.zero_le _, ?_, h0⟩, λ a ha => ?_⟩⟩
 ·have e : x.res (f + 1) = (true, x.gs) := by unfold LnI.res wV; rw [h0]; rfl
  rw [e]; exact ⟨rfl, λ _ => rfl, λ _ => rfl, λ _ => rfl, λ _ => rfl⟩
 ·show (decide (n = x.i) || x.a.m n) = _
  cases decide (n = x.i) <;> rfl
 ·show goL _ _ (2 * x.a.l.length - 0) 0 _ = wV _ _ (f + 1) _ _
  conv => rhs; unfold wV
  rw [h0]; rfl
 obtain ⟨k, s⟩ := a
 obtain ⟨hk, he, _⟩ := ha
 have hk : k <= 2 * x.a.l.length := hk
 have he : goL (wV x.a.l.length x.a.w f) x.i (2 * x.a.l.length - k) k s = wV x.a.l.length x.a.w (f + 1) x.i x.gs := he
 refine ⟨λ hlt => ?_, λ hge => ?_⟩
 ·have hlt : (k : Int) < 2 * x.a.l.length := hlt
  have hk2 : k < 2 * x.a.l.length := by omega
  obtain ⟨c, hc⟩ : ∃ c, 2 * x.a.l.length - k = c + 1 := ⟨2 * x.a.l.length - k - 1, by omega⟩
  have hc2 : 2 * x.a.l.length - (k + 1) = c := by omega
  rw [hc, ANJ] at he
  have hkI : 0 <= (k : Int) /\ (k : Int) < 4294967296 := by omega
  have next : ∀ s2 : GS, goL (wV x.a.l.length x.a.w f) x.i c (k + 1) s2 = wV x.a.l.length x.a.w (f + 1) x.i x.gs -> ((k + 1 : Nat) <= 2 * x.a.l.length /\ goL (wV x.a.l.length x.a.w f) x.i (2 * x.a.l.length - (k + 1)) (k + 1) s2 = wV x.a.l.length x.a.w (f + 1) x.i x.gs /\ (x.i == 2 * x.a.w) = false) /\ 2 * x.a.l.length - (k + 1) < 2 * x.a.l.length - k := λ s2 h2 =>
   ⟨⟨by omega, by rw [hc2]; exact h2, h0⟩, by omega⟩
  refine ⟨⟨rfl, hkI.1, show (k : Int) < 4294967296 from hkI.2⟩, λ hg => ⟨rfl, λ hm => ?_, λ hm => ⟨λ h => h, ⟨k + 1, s⟩, ⟨(CE (by omega)).symm, λ _ => rfl, λ _ => rfl, λ _ => rfl, λ _ => rfl⟩, next s ?_⟩⟩, λ hg => ⟨λ h => h, λ h => h, ⟨k + 1, s⟩, ⟨(CE (by omega)).symm, λ _ => rfl, λ _ => rfl, λ _ => rfl, λ _ => rfl⟩, next s ?_⟩⟩
  ·have hg' : decide (0 < s.r.g (cod x.i k)) = true := hg
   have hm' : (!s.m k) = true := hm
   rw [hg', cond_true, hm', cond_true] at he
   have hr : (wV x.a.l.length x.a.w f k s).isSome = true := by
    cases hq : wV x.a.l.length x.a.w f k s with
    | none => rw [hq] at he; rw [<- he] at hsome; cases hsome
    | some q => rfl
   have eres : LnI.res f ⟨x.with s, k⟩ = (wV x.a.l.length x.a.w f k s).getD default := rfl
   refine ⟨⟨hn, hw, ⟨show 0 <= (k : Int) from hkI.1, show (k : Int) < 2 * x.a.l.length from hlt⟩, hr⟩, λ ht => ?_, λ ht => ?_⟩
   all_goals rw [eres] at ht ⊢
   all_goals obtain ⟨⟨b, s'⟩, hq⟩ := Option.isSome_iff_exists.1 hr
   all_goals rw [hq] at ht he ⊢
   all_goals simp only [Option.getD_some] at ht ⊢
   ·have ht : b = true := ht
    subst ht
    have e : x.res (f + 1) = (true, AEB x.i k s') := by unfold LnI.res; rw [<- he]; rfl
    rw [e]
    refine ⟨⟨rfl, hkI.1, hkI.2, rfl, hkI.1, hkI.2, mZ _ _, (yB _ _ _).symm⟩, ⟨rfl, hi.1, by omega, rfl, hi.1, by omega, mZ _ _, (yB _ _ _).symm⟩, rfl, λ _ => rfl, λ _ => rfl, λ _ => rfl, λ _ => rfl⟩
   ·have ht : b = false := ht
    subst ht
    exact ⟨⟨k + 1, s'⟩, ⟨(CE (by omega)).symm, λ _ => rfl, λ _ => rfl, λ _ => rfl, λ _ => rfl⟩, next s' he⟩
  ·have hg' : decide (0 < s.r.g (cod x.i k)) = true := hg
   have hm' : (!s.m k) = false := hm
   rw [hg', cond_true, hm', cond_false] at he
   exact he
  ·have hg' : decide (0 < s.r.g (cod x.i k)) = false := hg
   rw [hg', cond_false, cond_false] at he
   exact he
 ·have hge : ¬ (k : Int) < 2 * x.a.l.length := hge
  obtain rfl : k = 2 * x.a.l.length := by omega
  rw [Nat.sub_self] at he
  have e : x.res (f + 1) = (false, s) := by unfold LnI.res; rw [<- he]; rfl
  rw [e]; exact ⟨rfl, λ _ => rfl, λ _ => rfl, λ _ => rfl, λ _ => rfl⟩
theorem AQB : ∀ f, AR Try.prog AAH ((wI f).spec rS)
 | 0 => okT (wI 0) (λ (x : LnI) (h : GoOk 0 x) => by have := h.some; simp [wV] at this) _
 | f + 1 => EX (wI (f + 1)) (A_go f) [] [] AYY (λ _ => by kernel_rfl) (λ _ => AH (AQB f) AM) (λ (x : LnI) h => p_go f x h) (λ _ => FK rfl rfl) _
theorem AAN : AR Try.prog mS (C_inner.spec rS) := EX C_inner (λ _ => AIY) [] [] ANX (λ _ => by kernel_rfl) (λ _ => AH RO AM) (λ (x : LnI) h => by
 have h : x.a.v.length = 1 := h
 show AHX x; rw [AMJ]; simp only [BF, eq_self, implies_true, and_self, true_and, and_true, true_implies, forall_const, decide_eq_true_eq, decide_eq_false_iff_not, Int.toNat_natCast, dSpan_eSpan, dInt_eInt, AV, BH, BJ, BC, AZ, AX, AY, Nat.zero_add, Int.zero_sub, Nat.le_eq, Nat.succ_eq_add_one, Nat.add_one_le_iff, Bool.not_eq_true', Bool.not_eq_false', rng_length, AT, AP, qX]
 exact ⟨λ _ => by omega, rfl⟩) (λ _ => FK rfl rfl) _
end Go.Bal
