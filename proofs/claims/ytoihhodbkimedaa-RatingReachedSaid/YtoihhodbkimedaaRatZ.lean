/- Package rating: Passes, Through, At. -/
import Derived.Test.YtoihhodbkimedaaRatX
set_option linter.unusedVariables false
set_option linter.unusedSimpArgs false
namespace Go.Bal
open Go Go.Sym Go.Proofs
structure GR where
 g : List Gau
 r : Rtg
def dGR : List AVal -> Heap -> Option (GR × List (Nat × Nat) × List Nat)
 | [x, y], H => match dGaus x H, dRtg y H with
  | some (l, f), some (r, e) => some (⟨l, r⟩, [], f ++ e)
  | _, _ => none
 | _, _ => none
def xGR (a : GR) : List AVal := [.d (eGaus a.g), .d (eRtg a.r)]
def notP (a : GR) (i : Nat) : Bool := !passM (gD a.r.l (leC a.r.b (gD a.g i).st)) (gD a.g i)
def pasK (a : GR) (n : Nat) : List Int := ((List.range n).filter (notP a)).map Int.ofNat
def pasE (a : GR) : Int := bif checkG a.g == 0 then checkRM a.r else checkG a.g
def pasM (a : GR) : List Int := bif pasE a == 0 then pasK a a.g.length else []
def C_Passes : Ctr := { α := GR, xs := xGR, L := λ _ => [], val := λ a => .tup [.d (eIntsL (pasM a)), .int (pasE a)], keep := λ _ => [], pre := λ a => [a.g.length < 1073741824 /\ a.r.b.length < 1073741824 /\ a.r.l.length < 1073741824] }
structure KI where
 k : Nat
 l : List Int
 deriving Inhabited
def rtgC (r : Rtg) : HCell := .live (.box [.d (eIntsL r.b), .d (eLns r.l)])
def psS (a : GR) (v : AVal) (k : Nat) : List (Nat × AVal) := [(3, .bptr 1000 0), (7, v), (19, .d (eGaus a.g)), (20, .int a.g.length), (21, .int k)]
def psI (a : GR) (k : Nat) (l : List Int) : Prop := pasE a = 0 /\ k <= a.g.length /\ l = pasK a k
def ps8n (a : GR) : Shape := { α := Nat, dflt := 0, T := λ k => ⟨psS a (.d nilL) k, [(1000, rtgC a.r)]⟩, inv := λ k => psI a k [], meas := λ k => a.g.length - k }
def ps8o (a : GR) : Shape := { α := KI, dflt := default, T := λ x => ⟨psS a (.own 301 1 0 x.l.length) x.k, [(1000, rtgC a.r), (301, .live (rowI x.l))]⟩, inv := λ x => psI a x.k x.l, meas := λ x => a.g.length - x.k }
def ps12n (a : GR) (m : Nat) : Shape := { α := Nat, dflt := 0, T := λ k => ⟨psS a (.d nilL) k, [(1000, rtgC a.r)]⟩, inv := λ k => k < a.g.length /\ a.g.length - k = m /\ psI a (k + 1) [], meas := λ _ => 0 }
def ps12o (a : GR) (m : Nat) (f : List (Nat × Nat)) : Shape := { α := KI, dflt := default, T := λ x => ⟨psS a (.own 301 1 0 x.l.length) x.k, [(1000, rtgC a.r), (301, .live (rowI x.l))]⟩, inv := λ x => x.k < a.g.length /\ a.g.length - x.k = m /\ psI a (x.k + 1) x.l, meas := λ _ => 0, first := f }
def ps4 (a : GR) : Shape := { α := One, dflt := default, T := λ _ => ⟨[(0, .d (eGaus a.g)), (3, .bptr 1000 0), (6, .int (pasE a))], [(1000, rtgC a.r)]⟩, inv := λ _ => True, meas := λ _ => 0 }
def A_Passes (a : GR) : Ann := { ann 44 [(n_Check, C_Check.spec dGs1), (n_CheckR, C_CheckR.spec dRt1), (n_part, C_part.spec dIX), (n_passes, s_passes)] with mt := λ id => id == 11, loops := λ id => if id = 8 then some [ps8n a, ps8o a] else none, cut := λ id => if id = 4 then some [ps4 a] else none, cutIn := λ gs id => if id = 12 then some [ps12n a (gs.getD 0 0), ps12o a (gs.getD 0 0) [(301, 12048)], ps12o a (gs.getD 0 0) []] else none }
def V_Passes (a : GR) : Prop := fnVC Try.prog (A_Passes a) F_Passes (bodyOf F_Passes) (xGR a) (heapOf []) (C_Passes.val a) [] [] [301]
abbrev z_Passes_0 (a : GR) : List Gau := rng a.g.length λ (i : Nat) => gD a.g i
abbrev z_Passes_1 (a : GR) : Nat := (z_Passes_0 a).length
abbrev z_Passes_2 (a : GR) (i : Nat) : Gau := gD (z_Passes_0 a) i
abbrev z_Passes_3 (a : GR) : Int := checkG (z_Passes_0 a)
abbrev z_Passes_4 (a : GR) : List Int := rng a.r.b.length λ (i : Nat) => gD a.r.b i
abbrev z_Passes_5 (a : GR) : Nat := (z_Passes_4 a).length
abbrev z_Passes_6 (a : GR) : Prop := z_Passes_5 a = a.r.b.length
abbrev z_Passes_7 (a : GR) : Prop := ∀ (i : Nat), i < z_Passes_5 a -> gD (z_Passes_4 a) i = gD a.r.b i
abbrev z_Passes_8 (a : GR) : List Ln := rng a.r.l.length λ (i : Nat) => gD a.r.l i
abbrev z_Passes_9 (a : GR) : Nat := (z_Passes_8 a).length
abbrev z_Passes_10 (a : GR) (i : Nat) : Ln := gD (z_Passes_8 a) i
abbrev z_Passes_11 (a : GR) : Prop := z_Passes_5 a < 4611686018427387904
abbrev z_Passes_12 (a : GR) : Prop := a.g.length = a.g.length
abbrev z_Passes_13 (a : GR) (i : Nat) : Prop := (gD a.g i).st = (gD a.g i).st
abbrev z_Passes_14 (a : GR) : Prop := ∀ (i : Nat), i < a.g.length -> z_Passes_13 a i /\ (gD a.g i).lo = (gD a.g i).lo /\ (gD a.g i).hi = (gD a.g i).hi
abbrev z_Passes_15 (a : GR) : Prop := a.r.b.length = a.r.b.length
abbrev z_Passes_16 (a : GR) : Prop := ∀ (i : Nat), i < a.r.b.length -> gD a.r.b i = gD a.r.b i
abbrev z_Passes_17 (a : GR) : Prop := a.r.l.length = a.r.l.length
abbrev z_Passes_18 (a : GR) : Prop := ∀ (i : Nat), i < a.r.l.length -> (gD a.r.l i).a0 = (gD a.r.l i).a0 /\ (gD a.r.l i).a1 = (gD a.r.l i).a1 /\ (gD a.r.l i).b0 = (gD a.r.l i).b0 /\ (gD a.r.l i).b1 = (gD a.r.l i).b1
abbrev z_Passes_19 (a : GR) : Prop := z_Passes_15 a /\ z_Passes_16 a /\ z_Passes_17 a /\ z_Passes_18 a
abbrev z_Passes_20 (a : GR) : Prop := (pasM a).length = 0
abbrev z_Passes_21 : Prop := 0 = 0
abbrev z_Passes_22 : Prop := ∀ (i : Nat), i < 0 -> false = false
abbrev z_Passes_23 (a : GR) : Prop := (↑a.g.length : Int) = (↑a.g.length : Int)
abbrev z_Passes_24 (a : GR) (a1 : Nat) : Prop := pasE a = 0 /\ a1 <= a.g.length /\ [] = pasK a a1
abbrev z_Passes_25 (a : Nat) (a1 : GR) : Prop := (↑a : Int) < (↑a1.g.length : Int)
abbrev z_Passes_26 (a : GR) : Prop := z_Passes_11 a /\ List.Pairwise (λ (x1 x2 : Int) => x1 < x2) (z_Passes_4 a)
abbrev z_Passes_27 (a : GR) (a1 : Nat) : Nat := leC (z_Passes_4 a) (gD a.g a1).st
abbrev z_Passes_28 (a : GR) (a1 : Nat) : Ln := gD a.r.l (z_Passes_27 a a1)
abbrev z_Passes_29 (a : GR) (a1 : Nat) : Int := (z_Passes_28 a a1).a0
abbrev z_Passes_30 (a : GR) (a1 : Nat) : Int := (z_Passes_28 a a1).b0
abbrev z_Passes_31 (a : GR) (a1 : Nat) : Int := (z_Passes_28 a a1).a1
abbrev z_Passes_32 (a : GR) (a1 : Nat) : Int := (z_Passes_28 a a1).b1
abbrev z_Passes_33 : Prop := 0 < 1
abbrev z_Passes_34 : Prop := 1 = 1
abbrev z_Passes_35 : Prop := 1 <= 1 /\ (z_Passes_33 -> z_Passes_34)
abbrev z_Passes_36 (a : KI) : Prop := a.l.length = 1
abbrev z_Passes_37 (a : GR) (a1 : KI) : Nat := a.g.length - a1.k
abbrev z_Passes_38 (a : GR) (a1 : Nat) : Nat := a.g.length - a1
abbrev z_Passes_39 (a : KI) : Nat := a.k + 1
abbrev z_Passes_40 (a : GR) (a1 : KI) : Prop := pasE a = 0 /\ z_Passes_39 a1 <= a.g.length /\ a1.l = pasK a (z_Passes_39 a1)
abbrev z_Passes_41 (a : KI) (a1 : GR) (a2 : Nat) : Prop := a.k < a1.g.length /\ z_Passes_37 a1 a = z_Passes_38 a1 a2 /\ z_Passes_40 a1 a
abbrev z_Passes_42 (a : Nat) : Nat := a + 1
abbrev z_Passes_43 (a : GR) (a1 : Nat) : Prop := pasE a = 0 /\ z_Passes_42 a1 <= a.g.length /\ [] = pasK a (z_Passes_42 a1)
abbrev z_Passes_44 (a : Nat) (a1 : GR) (a2 : Nat) : Prop := a < a1.g.length /\ z_Passes_38 a1 a = z_Passes_38 a1 a2 /\ z_Passes_43 a1 a
abbrev z_Passes_45 (a : GR) (a1 : Nat) (a2 : Nat) : Prop := z_Passes_21 /\ z_Passes_22 /\ z_Passes_12 a /\ z_Passes_14 a /\ z_Passes_23 a /\ (↑a1 : Int) = IntKind.i64.wrap ((↑a2 : Int) + 1) /\ z_Passes_19 a
abbrev z_Passes_46 (a : KI) (a1 : KI) : Prop := a.l.length = a1.l.length
abbrev z_Passes_47 (a : GR) (a1 : KI) (a2 : KI) : Prop := z_Passes_15 a /\ z_Passes_16 a /\ z_Passes_17 a /\ z_Passes_18 a /\ z_Passes_46 a1 a2 /\ ∀ (i : Nat), i < a1.l.length -> gD a1.l i = gD a2.l i
abbrev z_Passes_48 (a : KI) (a1 : KI) (a2 : GR) : Prop := z_Passes_21 /\ z_Passes_46 a a1 /\ z_Passes_12 a2 /\ z_Passes_14 a2 /\ z_Passes_23 a2 /\ (↑a.k : Int) = IntKind.i64.wrap ((↑a1.k : Int) + 1) /\ z_Passes_47 a2 a a1
abbrev z_Passes_49 (a : GR) (a1 : KI) : Prop := pasE a = 0 /\ a1.k <= a.g.length /\ a1.l = pasK a a1.k
abbrev z_Passes_50 (a : GR) (a1 : Nat) : Prop := ∀ (a_1 : KI), z_Passes_41 a_1 a a1 -> ∃ (a_3 : KI), z_Passes_48 a_3 a_1 a /\ z_Passes_49 a a_3 /\ z_Passes_37 a a_3 < z_Passes_38 a a1
abbrev z_Passes_51 (a : KI) (a1 : GR) : Prop := (↑a.k : Int) < (↑a1.g.length : Int)
abbrev z_Passes_52 (a : GR) (a1 : KI) : Nat := leC (z_Passes_4 a) (gD a.g a1.k).st
abbrev z_Passes_53 (a : GR) (a1 : KI) : Ln := gD a.r.l (z_Passes_52 a a1)
abbrev z_Passes_54 (a : GR) (a1 : KI) : Int := (z_Passes_53 a a1).a0
abbrev z_Passes_55 (a : GR) (a1 : KI) : Int := (z_Passes_53 a a1).b0
abbrev z_Passes_56 (a : GR) (a1 : KI) : Int := (z_Passes_53 a a1).a1
abbrev z_Passes_57 (a : GR) (a1 : KI) : Int := (z_Passes_53 a a1).b1
abbrev z_Passes_58 (a : KI) : Nat := a.l.length + 1
abbrev z_Passes_59 (a : KI) (a1 : KI) : Prop := a.l.length = z_Passes_58 a1
abbrev z_Passes_60 (a : KI) (a1 : KI) : Prop := (↑a.k : Int) = (↑a1.k : Int)
abbrev z_Passes_61 (a : KI) (a1 : GR) (a2 : KI) : Prop := a.k < a1.g.length /\ z_Passes_37 a1 a = z_Passes_37 a1 a2 /\ z_Passes_40 a1 a
abbrev z_Passes_62 (a : GR) (a1 : KI) : Prop := ∀ (a_1 : KI), z_Passes_61 a_1 a a1 -> ∃ (a_3 : KI), z_Passes_48 a_3 a_1 a /\ z_Passes_49 a a_3 /\ z_Passes_37 a a_3 < z_Passes_37 a a1
theorem vc_Passes (a : GR) : (V_Passes a) = ((z_Passes_1 a = a.g.length /\ (∀ (i : Nat), i < z_Passes_1 a -> (z_Passes_2 a i).st = (gD a.g i).st /\ (z_Passes_2 a i).lo = (gD a.g i).lo /\ (z_Passes_2 a i).hi = (gD a.g i).hi)
 /\ z_Passes_1 a < 4611686018427387904 /\ True) /\ (bif z_Passes_3 a == 0 then (z_Passes_6 a /\ z_Passes_7 a /\ z_Passes_9 a = a.r.l.length /\ (∀ (i : Nat), i < z_Passes_9 a -> (z_Passes_10 a i).a0 = (gD a.r.l i).a0 /\
 (z_Passes_10 a i).a1 = (gD a.r.l i).a1 /\ (z_Passes_10 a i).b0 = (gD a.r.l i).b0 /\ (z_Passes_10 a i).b1 = (gD a.r.l i).b1) /\ z_Passes_11 a /\ z_Passes_9 a < 4611686018427387904) /\ ∃ (a_1 : One), (z_Passes_12 a /\
 z_Passes_14 a /\ pasE a = checkRM (Rtg.mk (z_Passes_4 a) (z_Passes_8 a)) /\ z_Passes_19 a) /\ True else ∃ (a_1 : One), (z_Passes_12 a /\ z_Passes_14 a /\ pasE a = z_Passes_3 a /\ z_Passes_19 a) /\ True) /\ ∀ (a_1 : One), True ->
 bif pasE a != 0 then z_Passes_20 a /\ z_Passes_20 a /\ pasE a = pasE a else (∃ (a_3 : Nat), (z_Passes_21 /\ z_Passes_22 /\ z_Passes_12 a /\ z_Passes_14 a /\ z_Passes_23 a /\ (↑a_3 : Int) = 0 /\ z_Passes_19 a) /\ z_Passes_24 a
 a_3) /\ (∀ (a_3 : Nat), z_Passes_24 a a_3 -> bif decide (z_Passes_25 a_3 a) then ((0 <= (↑a_3 : Int) /\ z_Passes_25 a_3 a) /\ (z_Passes_6 a /\ z_Passes_7 a /\ z_Passes_13 a a_3 /\ z_Passes_26 a /\ (0 <= (↑(z_Passes_27 a a_3) :
 Int) /\ (↑(z_Passes_27 a a_3) : Int) < (↑a.r.l.length : Int)) /\ (0 <= z_Passes_29 a a_3 /\ z_Passes_29 a a_3 < z_Passes_30 a a_3 /\ z_Passes_30 a a_3 <= 2000 /\ 0 <= z_Passes_31 a a_3 /\ z_Passes_31 a a_3 <= z_Passes_32 a a_3 /\
 z_Passes_32 a a_3 <= 200000) /\ 0 <= (gD a.g a_3).st /\ (gD a.g a_3).st <= 2000 /\ 0 <= (gD a.g a_3).lo /\ (gD a.g a_3).lo <= (gD a.g a_3).hi /\ (gD a.g a_3).hi <= 200000) /\ bif !passM (z_Passes_28 a a_3) (gD a.g a_3) then ((True /\
 (0 < 0 -> 0 = 1)) /\ z_Passes_35 /\ (true = true -> z_Passes_33) /\ 1 <= 9223372036854775807 /\ 8 <= 140737488355328) /\ ∃ (a_5 : KI), (z_Passes_21 /\ z_Passes_36 a_5 /\ z_Passes_12 a /\ z_Passes_14 a /\ z_Passes_23 a /\ (↑a_5.k :
 Int) = (↑a_3 : Int) /\ z_Passes_15 a /\ z_Passes_16 a /\ z_Passes_17 a /\ z_Passes_18 a /\ z_Passes_36 a_5 /\ ∀ (i : Nat), i < a_5.l.length -> gD a_5.l i = (↑a_3 : Int)) /\ z_Passes_41 a_5 a a_3 else ∃ (a_5 : Nat), (z_Passes_21
 /\ z_Passes_22 /\ z_Passes_12 a /\ z_Passes_14 a /\ z_Passes_23 a /\ (↑a_5 : Int) = (↑a_3 : Int) /\ z_Passes_19 a) /\ z_Passes_44 a_5 a a_3) /\ (∀ (a_5 : Nat), z_Passes_44 a_5 a a_3 -> ∃ (a_7 : Nat), z_Passes_45 a a_7 a_5 /\
 z_Passes_24 a a_7 /\ z_Passes_38 a a_7 < z_Passes_38 a a_3) /\ z_Passes_50 a a_3 /\ z_Passes_50 a a_3 else z_Passes_20 a /\ z_Passes_20 a /\ pasE a = 0) /\ ∀ (a_3 : KI), z_Passes_49 a a_3 -> bif decide (z_Passes_51 a_3 a) then
 ((0 <= (↑a_3.k : Int) /\ z_Passes_51 a_3 a) /\ (z_Passes_6 a /\ z_Passes_7 a /\ (gD a.g a_3.k).st = (gD a.g a_3.k).st /\ z_Passes_26 a /\ (0 <= (↑(z_Passes_52 a a_3) : Int) /\ (↑(z_Passes_52 a a_3) : Int) < (↑a.r.l.length : Int))
 /\ (0 <= z_Passes_54 a a_3 /\ z_Passes_54 a a_3 < z_Passes_55 a a_3 /\ z_Passes_55 a a_3 <= 2000 /\ 0 <= z_Passes_56 a a_3 /\ z_Passes_56 a a_3 <= z_Passes_57 a a_3 /\ z_Passes_57 a a_3 <= 200000) /\ 0 <= (gD a.g a_3.k).st /\ (gD a.g
 a_3.k).st <= 2000 /\ 0 <= (gD a.g a_3.k).lo /\ (gD a.g a_3.k).lo <= (gD a.g a_3.k).hi /\ (gD a.g a_3.k).hi <= 200000) /\ bif !passM (z_Passes_53 a a_3) (gD a.g a_3.k) then ((a_3.l.length = a_3.l.length /\ (0 < a_3.l.length ->
 z_Passes_34)) /\ z_Passes_35 /\ (false = true -> z_Passes_33) /\ z_Passes_58 a_3 <= 9223372036854775807 /\ z_Passes_58 a_3 * 8 <= 140737488355328) /\ ∃ (a_5 : KI), (z_Passes_21 /\ z_Passes_59 a_5 a_3 /\ z_Passes_12 a /\ z_Passes_14
 a /\ z_Passes_23 a /\ z_Passes_60 a_5 a_3 /\ z_Passes_15 a /\ z_Passes_16 a /\ z_Passes_17 a /\ z_Passes_18 a /\ z_Passes_59 a_5 a_3 /\ ∀ (i : Nat), i < a_5.l.length -> gD a_5.l i = bif decide (i < a_3.l.length) then gD a_3.l i
 else (↑a_3.k : Int)) /\ z_Passes_61 a_5 a a_3 else ∃ (a_5 : KI), (z_Passes_21 /\ z_Passes_46 a_5 a_3 /\ z_Passes_12 a /\ z_Passes_14 a /\ z_Passes_23 a /\ z_Passes_60 a_5 a_3 /\ z_Passes_47 a a_5 a_3) /\ z_Passes_61 a_5 a a_3) /\
 (∀ (a_5 : Nat), a_5 < a.g.length /\ z_Passes_38 a a_5 = z_Passes_37 a a_3 /\ z_Passes_43 a a_5 -> ∃ (a_7 : Nat), z_Passes_45 a a_7 a_5 /\ z_Passes_24 a a_7 /\ z_Passes_38 a a_7 < z_Passes_37 a a_3) /\ z_Passes_62 a a_3 /\
 z_Passes_62 a a_3 else (pasM a).length = a_3.l.length /\ 0 + a_3.l.length <= a_3.l.length /\ (∀ (j : Nat), j < (pasM a).length -> gD (pasM a) j = gD a_3.l (0 + j)) /\ pasE a = 0) := by kernel_rfl
structure RtI where
 r : Rtg
 t : Int
def okRt (r : Rtg) : Prop := asc r.b /\ r.l.length = r.b.length + 1 /\ (∀ x ∈ r.l, okL x) /\ r.b.length <= 24
def dRtI : List AVal -> Heap -> Option (RtI × List (Nat × Nat) × List Nat)
 | [x, .d t], H => match dRtg x H with
  | some (r, f) => some (⟨r, dInt t⟩, [], f)
  | none => none
 | _, _ => none
def atF (a : RtI) : Rt := flowM (gD a.r.l (leC a.r.b a.t)) a.t
def C_flowR : Ctr := { α := RtI, xs := λ a => [.d (eRtg a.r), .int a.t], L := λ _ => [], val := λ a => .d (eRt (atF a)), keep := λ _ => [], pre := λ a => [okRt a.r /\ 0 <= a.t /\ a.t <= 2000] }
def A_flowR : Ann := ann 15 [(n_part, C_part.spec dIX), (n_flowL, s_flowL)]
def V_flowR (a : RtI) : Prop := fnVC Try.prog A_flowR F_flowR (bodyOf F_flowR) (C_flowR.xs a) (heapOf []) (C_flowR.val a) [] [] []
theorem vc_flowR (a : RtI) : (V_flowR a) = (((rng a.r.b.length λ (i : Nat) => gD a.r.b i).length = a.r.b.length /\ (∀ (i : Nat), i < (rng a.r.b.length λ (i : Nat) => gD a.r.b i).length -> gD (rng a.r.b.length λ (i :
 Nat) => gD a.r.b i) i = gD a.r.b i) /\ a.t = a.t /\ ((rng a.r.b.length λ (i : Nat) => gD a.r.b i).length < 4611686018427387904 /\ List.Pairwise (λ (x1 x2 : Int) => x1 < x2) (rng a.r.b.length λ (i : Nat) => gD a.r.b
 i)) /\ (0 <= (↑(leC (rng a.r.b.length λ (i : Nat) => gD a.r.b i) a.t) : Int) /\ (↑(leC (rng a.r.b.length λ (i : Nat) => gD a.r.b i) a.t) : Int) < (↑a.r.l.length : Int)) /\ (0 <= (gD a.r.l (leC (rng a.r.b.length λ (i :
 Nat) => gD a.r.b i) a.t)).a0 /\ (gD a.r.l (leC (rng a.r.b.length λ (i : Nat) => gD a.r.b i) a.t)).a0 < (gD a.r.l (leC (rng a.r.b.length λ (i : Nat) => gD a.r.b i) a.t)).b0 /\ (gD a.r.l (leC (rng a.r.b.length λ (i :
 Nat) => gD a.r.b i) a.t)).b0 <= 2000 /\ 0 <= (gD a.r.l (leC (rng a.r.b.length λ (i : Nat) => gD a.r.b i) a.t)).a1 /\ (gD a.r.l (leC (rng a.r.b.length λ (i : Nat) => gD a.r.b i) a.t)).a1 <= (gD a.r.l (leC (rng a.r.b.length
 λ (i : Nat) => gD a.r.b i) a.t)).b1 /\ (gD a.r.l (leC (rng a.r.b.length λ (i : Nat) => gD a.r.b i) a.t)).b1 <= 200000) /\ 0 <= a.t /\ a.t <= 2000) /\ (atF a).n = (flowM (gD a.r.l (leC (rng a.r.b.length λ (i : Nat) => gD
 a.r.b i) a.t)) a.t).n /\ (atF a).d = (flowM (gD a.r.l (leC (rng a.r.b.length λ (i : Nat) => gD a.r.b i) a.t)) a.t).d) := by kernel_rfl
def dAR : List AVal -> Heap -> Option (RtI × List (Nat × Nat) × List Nat)
 | [.d (.iface 27 (.agg [.list _ n f _, .list _ m g _])), .d t], _ => some (⟨⟨rng n λ i => dInt (f i), rng m λ i => dLn (g i)⟩, dInt t⟩, [], [])
 | _, _ => none
def C_askR : Ctr := { C_flowR with xs := λ (a : RtI) => [.d (.iface 27 (eRtg a.r)), .int a.t] }
def V_askR (a : RtI) : Prop := fnVC Try.prog (ann 8 [(n_flowR, C_flowR.spec dRtI)]) F_asked (bodyOf F_asked) (C_askR.xs a) (heapOf []) (C_askR.val a) [] [] []
theorem vc_askR (a : RtI) : (V_askR a) = (((rng a.r.b.length λ (i : Nat) => gD a.r.b i).length = a.r.b.length /\ (∀ (i : Nat), i < (rng a.r.b.length λ (i : Nat) => gD a.r.b i).length -> gD (rng a.r.b.length λ (i :
 Nat) => gD a.r.b i) i = gD a.r.b i) /\ (rng a.r.l.length λ (i : Nat) => gD a.r.l i).length = a.r.l.length /\ (∀ (i : Nat), i < (rng a.r.l.length λ (i : Nat) => gD a.r.l i).length -> (gD (rng a.r.l.length λ (i : Nat)
 => gD a.r.l i) i).a0 = (gD a.r.l i).a0 /\ (gD (rng a.r.l.length λ (i : Nat) => gD a.r.l i) i).a1 = (gD a.r.l i).a1 /\ (gD (rng a.r.l.length λ (i : Nat) => gD a.r.l i) i).b0 = (gD a.r.l i).b0 /\ (gD (rng a.r.l.length fun
 (i : Nat) => gD a.r.l i) i).b1 = (gD a.r.l i).b1) /\ a.t = a.t /\ (List.Pairwise (λ (x1 x2 : Int) => x1 < x2) (rng a.r.b.length λ (i : Nat) => gD a.r.b i) /\ (rng a.r.l.length λ (i : Nat) => gD a.r.l i).length = (rng
 a.r.b.length λ (i : Nat) => gD a.r.b i).length + 1 /\ (∀ (x : Ln), List.Mem x (rng a.r.l.length λ (i : Nat) => gD a.r.l i) -> 0 <= x.a0 /\ x.a0 < x.b0 /\ x.b0 <= 2000 /\ 0 <= x.a1 /\ x.a1 <= x.b1 /\ x.b1 <= 200000) /\ (rng
 a.r.b.length λ (i : Nat) => gD a.r.b i).length <= 24) /\ 0 <= a.t /\ a.t <= 2000) /\ (atF a).n = (atF (RtI.mk (Rtg.mk (rng a.r.b.length λ (i : Nat) => gD a.r.b i) (rng a.r.l.length λ (i : Nat) => gD a.r.l i)) a.t)).n /\
 (atF a).d = (atF (RtI.mk (Rtg.mk (rng a.r.b.length λ (i : Nat) => gD a.r.b i) (rng a.r.l.length λ (i : Nat) => gD a.r.l i)) a.t)).d) := by kernel_rfl
def atE (a : RtI) : Int := bif checkRM a.r == 0 then (bif inM a.t 0 2000 then 0 else 4) else checkRM a.r
def atM (a : RtI) : Rt := bif atE a == 0 then atF a else ⟨0, 0⟩
def C_At : Ctr := { α := RtI, xs := λ a => [.d (eRtg a.r), .int a.t], L := λ _ => [], val := λ a => .tup [.d (eRt (atM a)), .int (atE a)], keep := λ _ => [], pre := λ a => [a.r.b.length < 1073741824 /\ a.r.l.length < 1073741824] }
def A_At : Ann := ann 21 [(n_CheckR, C_CheckR.spec dRt1), (n_in, s_in), (n_asked, C_askR.spec dAR)]
def V_At (a : RtI) : Prop := fnVC Try.prog A_At F_At (bodyOf F_At) (C_At.xs a) (heapOf []) (C_At.val a) [] [] []
theorem vc_At (a : RtI) : (V_At a) = (((rng a.r.b.length λ (i : Nat) => gD a.r.b i).length = a.r.b.length /\ (∀ (i : Nat), i < (rng a.r.b.length λ (i : Nat) => gD a.r.b i).length -> gD (rng a.r.b.length λ (i : Nat)
 => gD a.r.b i) i = gD a.r.b i) /\ (rng a.r.l.length λ (i : Nat) => gD a.r.l i).length = a.r.l.length /\ (∀ (i : Nat), i < (rng a.r.l.length λ (i : Nat) => gD a.r.l i).length -> (gD (rng a.r.l.length λ (i : Nat) => gD
 a.r.l i) i).a0 = (gD a.r.l i).a0 /\ (gD (rng a.r.l.length λ (i : Nat) => gD a.r.l i) i).a1 = (gD a.r.l i).a1 /\ (gD (rng a.r.l.length λ (i : Nat) => gD a.r.l i) i).b0 = (gD a.r.l i).b0 /\ (gD (rng a.r.l.length λ (i :
 Nat) => gD a.r.l i) i).b1 = (gD a.r.l i).b1) /\ (rng a.r.b.length λ (i : Nat) => gD a.r.b i).length < 4611686018427387904 /\ (rng a.r.l.length λ (i : Nat) => gD a.r.l i).length < 4611686018427387904) /\ bif checkRM
 (Rtg.mk (rng a.r.b.length λ (i : Nat) => gD a.r.b i) (rng a.r.l.length λ (i : Nat) => gD a.r.l i)) != 0 then (atM a).n = 0 /\ (atM a).d = 0 /\ atE a = checkRM (Rtg.mk (rng a.r.b.length λ (i : Nat) => gD a.r.b i) (rng
 a.r.l.length λ (i : Nat) => gD a.r.l i)) else bif !inM a.t 0 2000 then (atM a).n = 0 /\ (atM a).d = 0 /\ atE a = 4 else ((rng a.r.b.length λ (i : Nat) => gD a.r.b i).length = a.r.b.length /\ (∀ (i : Nat), i < (rng
 a.r.b.length λ (i : Nat) => gD a.r.b i).length -> gD (rng a.r.b.length λ (i : Nat) => gD a.r.b i) i = gD a.r.b i) /\ (rng a.r.l.length λ (i : Nat) => gD a.r.l i).length = a.r.l.length /\ (∀ (i : Nat), i < (rng
 a.r.l.length λ (i : Nat) => gD a.r.l i).length -> (gD (rng a.r.l.length λ (i : Nat) => gD a.r.l i) i).a0 = (gD a.r.l i).a0 /\ (gD (rng a.r.l.length λ (i : Nat) => gD a.r.l i) i).a1 = (gD a.r.l i).a1 /\ (gD (rng
 a.r.l.length λ (i : Nat) => gD a.r.l i) i).b0 = (gD a.r.l i).b0 /\ (gD (rng a.r.l.length λ (i : Nat) => gD a.r.l i) i).b1 = (gD a.r.l i).b1) /\ a.t = a.t /\ (List.Pairwise (λ (x1 x2 : Int) => x1 < x2) (rng
 a.r.b.length λ (i : Nat) => gD a.r.b i) /\ (rng a.r.l.length λ (i : Nat) => gD a.r.l i).length = (rng a.r.b.length λ (i : Nat) => gD a.r.b i).length + 1 /\ (∀ (x : Ln), List.Mem x (rng a.r.l.length λ (i : Nat) =>
 gD a.r.l i) -> 0 <= x.a0 /\ x.a0 < x.b0 /\ x.b0 <= 2000 /\ 0 <= x.a1 /\ x.a1 <= x.b1 /\ x.b1 <= 200000) /\ (rng a.r.b.length λ (i : Nat) => gD a.r.b i).length <= 24) /\ 0 <= a.t /\ a.t <= 2000) /\ (atM a).n = (atF (RtI.mk (Rtg.mk (rng
 a.r.b.length λ (i : Nat) => gD a.r.b i) (rng a.r.l.length λ (i : Nat) => gD a.r.l i)) a.t)).n /\ (atM a).d = (atF (RtI.mk (Rtg.mk (rng a.r.b.length λ (i : Nat) => gD a.r.b i) (rng a.r.l.length λ (i : Nat) => gD
 a.r.l i)) a.t)).d /\ atE a = 0) := by kernel_rfl
theorem checkR_ok {r : Rtg} (h : checkRM r = 0) : okRt r /\ ∀ x ∈ r.b, 1 <= x /\ x <= 2000 := by
 unfold checkRM at h
 cases hb : checkBM r.b != 0 with
 | true => rw [hb] at h; have h : checkBM r.b = 0 := h; rw [h] at hb; cases hb
 | false =>
  rw [hb] at h
  have hb0 : checkBM r.b = 0 := by simpa using hb
  cases hl : (r.l.length : Int) != (r.b.length : Int) + 1 with
  | true => rw [hl] at h; cases h
  | false =>
   rw [hl] at h
   cases hr : r.l.all riL with
   | false => rw [hr] at h; cases h
   | true =>
    have hl0 : (r.l.length : Int) = (r.b.length : Int) + 1 := by simpa using hl
    unfold checkBM at hb0
    split at hb0
    ·cases hb0
    ·obtain ⟨h5, h6⟩ := brk_ok _ 0 (by omega) hb0
     exact ⟨⟨h5, by omega, λ x hx => riL_ok.1 (List.all_eq_true.1 hr x hx), by omega⟩, λ x hx => by have := h6 x hx; omega⟩
theorem pasK_succ {a : GR} {k : Nat} : pasK a (k + 1) = if notP a k = true then pasK a k ++ [(k : Int)] else pasK a k := by
 unfold pasK
 rw [List.range_succ, List.filter_append, List.map_append]
 by_cases h : notP a k = true
 ·rw [if_pos h, List.filter_cons_of_pos h]; rfl
 ·rw [if_neg h, List.filter_cons_of_neg h]; simp
theorem pasK_len (a : GR) (k : Nat) : (pasK a k).length <= k := by
 unfold pasK; rw [List.length_map]
 exact Nat.le_trans (List.length_filter_le _ _) (by simp)
theorem p_Passes (a : GR) (h1 : a.g.length < 1073741824) (h2 : a.r.b.length < 1073741824) (h3 : a.r.l.length < 1073741824) : V_Passes a := by
 rw [vc_Passes]; delta z_Passes_0 z_Passes_1 z_Passes_2 z_Passes_3 z_Passes_4 z_Passes_5 z_Passes_6 z_Passes_7 z_Passes_8 z_Passes_9 z_Passes_10 z_Passes_11 z_Passes_12 z_Passes_13 z_Passes_14 z_Passes_15 z_Passes_16 z_Passes_17 z_Passes_18 z_Passes_19 z_Passes_20 z_Passes_21 z_Passes_22 z_Passes_23 z_Passes_24 z_Passes_25 z_Passes_26 z_Passes_27 z_Passes_28 z_Passes_29 z_Passes_30 z_Passes_31 z_Passes_32 z_Passes_33 z_Passes_34 z_Passes_35 z_Passes_36 z_Passes_37 z_Passes_38 z_Passes_39 z_Passes_40 z_Passes_41 z_Passes_42 z_Passes_43 z_Passes_44 z_Passes_45 z_Passes_46 z_Passes_47 z_Passes_48 z_Passes_49 z_Passes_50 z_Passes_51 z_Passes_52 z_Passes_53 z_Passes_54 z_Passes_55 z_Passes_56 z_Passes_57 z_Passes_58 z_Passes_59 z_Passes_60 z_Passes_61 z_Passes_62; simp only [condP, eq_self, implies_true, and_self, true_and, and_true, true_implies, forall_const, decide_eq_true_eq, decide_eq_false_iff_not, Int.toNat_natCast, dSpan_eSpan, dInt_eInt, dGau_e, dPt_e, dLn_e, dRt_e, Nat.zero_add, Int.zero_sub, Nat.le_eq, Nat.succ_eq_add_one, Nat.add_one_le_iff, Bool.not_eq_true', Bool.not_eq_false', rng_length, dSpan_mk, rng_getD]
 have em : ¬pasE a = 0 -> pasM a = [] := λ h => by unfold pasM; rw [show (pasE a == 0) = false by simpa using h]; rfl
 have facts : pasE a = 0 -> checkG a.g = 0 /\ okRt a.r := λ h => by
  unfold pasE at h
  cases hc : checkG a.g == 0 with
  | false => rw [hc] at h; have h : checkG a.g = 0 := h; rw [h] at hc; cases hc
  | true => rw [hc] at h; exact ⟨by simpa using hc, (checkR_ok h).1⟩
 have pre : ∀ {k : Nat}, pasE a = 0 -> k < a.g.length -> ((a.r.b.length < 4611686018427387904 /\ asc a.r.b) /\ (0 <= ((leC a.r.b (gD a.g k).st : Nat) : Int) /\ ((leC a.r.b (gD a.g k).st : Nat) : Int) < a.r.l.length) /\ okL (gD a.r.l (leC a.r.b (gD a.g k).st)) /\ okG (gD a.g k)) := λ {k} h hk => by
  obtain ⟨f1, f2, f3, f4, f5⟩ := facts h
  have hle : leC a.r.b (gD a.g k).st <= a.r.b.length := List.countP_le_length
  exact ⟨⟨by omega, f2⟩, ⟨by omega, by omega⟩, f4 _ (gD_mem (by omega)), (check_ok f1).2 _ (gD_mem hk)⟩
 have nP : ∀ {k : Nat}, passM (gD a.r.l (leC a.r.b (gD a.g k).st)) (gD a.g k) = false -> notP a k = true := λ {k} h => by unfold notP; rw [h]; rfl
 have nQ : ∀ {k : Nat}, passM (gD a.r.l (leC a.r.b (gD a.g k).st)) (gD a.g k) = true -> ¬notP a k = true := λ {k} h => by unfold notP; rw [h]; simp
 have cn : ∀ (m i : Nat), i < a.g.length /\ a.g.length - i = m /\ psI a (i + 1) [] -> ∃ j : Nat, (j : Int) = IntKind.i64.wrap ((i : Int) + 1) /\ psI a j [] /\ a.g.length - j < m := λ m i ⟨b1, b2, b3⟩ => ⟨i + 1, (wsucc (by omega)).symm, b3, by omega⟩
 have co : ∀ (m : Nat) (x : KI), x.k < a.g.length /\ a.g.length - x.k = m /\ psI a (x.k + 1) x.l -> ∃ y : KI, (y.l.length = x.l.length /\ (y.k : Int) = IntKind.i64.wrap ((x.k : Int) + 1) /\ y.l.length = x.l.length /\ ∀ i, i < y.l.length -> gD y.l i = gD x.l i) /\ psI a y.k y.l /\ a.g.length - y.k < m := λ m x ⟨b1, b2, b3⟩ => ⟨⟨x.k + 1, x.l⟩, ⟨rfl, (wsucc (by omega)).symm, rfl, λ _ _ => rfl⟩, b3, by show a.g.length - (x.k + 1) < m; omega⟩
 have fin : ∀ {l : List Int}, pasE a = 0 -> l = pasK a a.g.length -> pasM a = l := λ {l} h1 h2 => by unfold pasM; rw [h1, h2]; rfl
 refine ⟨by omega, ⟨λ hc => ⟨⟨by omega, by omega⟩, default, ?_⟩, λ hc => ⟨default, ?_⟩⟩, λ he => ?_, λ he => ⟨⟨0, rfl, by simpa using he, Nat.zero_le _, rfl⟩, λ k ⟨k1, k2, k3⟩ => ⟨λ hlt => ⟨⟨⟨by omega, by omega⟩, pre k1 (by omega), λ hp => ⟨⟨by omega, by omega, by omega, by omega, by omega⟩, ⟨k, [(k : Int)]⟩, ⟨rfl, rfl, rfl, λ i hi => ?_⟩, by show k < _; omega, rfl, k1, by show k < _; omega, ?_⟩, λ hp => ⟨k, rfl, by omega, rfl, k1, by omega, ?_⟩⟩, cn _, co _⟩, λ hge => ?_⟩, λ x ⟨x1, x2, x3⟩ => ⟨λ hlt => ⟨⟨⟨by omega, by omega⟩, pre x1 (by omega), λ hp => ⟨⟨by omega, λ h => (by cases h), ?_, ?_⟩, ⟨x.k, x.l ++ [(x.k : Int)]⟩, ⟨by simp, rfl, by simp, snocI _ _⟩, by show x.k < _; omega, rfl, x1, by show x.k < _; omega, ?_⟩, λ hp => ⟨x, ⟨rfl, rfl, rfl, λ _ _ => rfl⟩, by omega, rfl, x1, by omega, ?_⟩⟩, cn _, co _⟩, λ hge => ?_⟩⟩⟩
 ·unfold pasE; rw [hc]; rfl
 ·unfold pasE; rw [hc]; rfl
 ·rw [em (by simpa using he)]; rfl
 ·rw [show i = 0 by have h1 : i < 1 := hi; omega]; rfl
 ·rw [pasK_succ, if_pos (nP hp), <- k3]; rfl
 ·rw [pasK_succ, if_neg (nQ hp)]; exact k3
 ·have e : pasM a = [] := fin k1 (by rw [k3, show k = a.g.length by omega])
  rw [e]; exact ⟨rfl, rfl, k1⟩
 ·have := pasK_len a x.k; rw [<- x3] at this; omega
 ·have := pasK_len a x.k; rw [<- x3] at this; omega
 ·show x.l ++ _ = _; rw [pasK_succ, if_pos (nP hp), <- x3]
 ·rw [pasK_succ, if_neg (nQ hp)]; exact x3
 ·have e : pasM a = x.l := fin x1 (by rw [x3, show x.k = a.g.length by omega])
  rw [e]; exact ⟨rfl, Nat.le_refl _, λ _ _ => rfl, x1⟩
theorem ok_Passes : SpecOk Try.prog n_Passes (C_Passes.spec dGR) := okC C_Passes A_Passes [] [301] fn_Passes (λ _ => by kernel_rfl) (λ _ => gok_cons ok_Check (gok_cons ok_CheckR (gok_cons ok_part (gok_cons ok_passes gok_nil)))) (λ (a : GR) h => p_Passes a h.1 h.2.1 h.2.2) (λ _ => noI rfl rfl) _
theorem ok_flowR : SpecOk Try.prog n_flowR (C_flowR.spec dRtI) := okC C_flowR (λ _ => A_flowR) [] [] fn_flowR (λ _ => by kernel_rfl) (λ _ => gok_cons ok_part (gok_cons ok_flowL gok_nil)) (λ (a : RtI) h => by
 show V_flowR a; rw [vc_flowR]; simp only [condP, eq_self, implies_true, and_self, true_and, and_true, true_implies, forall_const, decide_eq_true_eq, decide_eq_false_iff_not, Int.toNat_natCast, dSpan_eSpan, dInt_eInt, dGau_e, dPt_e, dLn_e, dRt_e, Nat.zero_add, Int.zero_sub, Nat.le_eq, Nat.succ_eq_add_one, Nat.add_one_le_iff, Bool.not_eq_true', Bool.not_eq_false', rng_length, dSpan_mk, rng_getD]
 obtain ⟨⟨h1, h2, h3, h4⟩, h5⟩ : okRt a.r /\ 0 <= a.t /\ a.t <= 2000 := h
 have hle : leC a.r.b a.t <= a.r.b.length := List.countP_le_length
 exact ⟨⟨⟨by omega, h1⟩, ⟨by omega, by omega⟩, h3 _ (gD_mem (by omega)), h5⟩, rfl, rfl⟩) (λ _ => noI rfl rfl) _
theorem ok_askR : SpecOk Try.prog n_asked (C_askR.spec dAR) := okC C_askR (λ _ => ann 8 [(n_flowR, C_flowR.spec dRtI)]) [] [] fn_asked (λ _ => by kernel_rfl) (λ _ => gok_cons ok_flowR gok_nil) (λ (a : RtI) h => by
 show V_askR a; rw [vc_askR]; simp only [condP, eq_self, implies_true, and_self, true_and, and_true, true_implies, forall_const, decide_eq_true_eq, decide_eq_false_iff_not, Int.toNat_natCast, dSpan_eSpan, dInt_eInt, dGau_e, dPt_e, dLn_e, dRt_e, Nat.zero_add, Int.zero_sub, Nat.le_eq, Nat.succ_eq_add_one, Nat.add_one_le_iff, Bool.not_eq_true', Bool.not_eq_false', rng_length, dSpan_mk, rng_getD]
 exact h) (λ _ => noI rfl rfl) _
theorem ok_At : SpecOk Try.prog n_At (C_At.spec dRtI) := okC C_At (λ _ => A_At) [] [] fn_At (λ _ => by kernel_rfl) (λ _ => gok_cons ok_CheckR (gok_cons ok_in (gok_cons ok_askR gok_nil))) (λ (a : RtI) h => by
 show V_At a; rw [vc_At]; simp only [condP, eq_self, implies_true, and_self, true_and, and_true, true_implies, forall_const, decide_eq_true_eq, decide_eq_false_iff_not, Int.toNat_natCast, dSpan_eSpan, dInt_eInt, dGau_e, dPt_e, dLn_e, dRt_e, Nat.zero_add, Int.zero_sub, Nat.le_eq, Nat.succ_eq_add_one, Nat.add_one_le_iff, Bool.not_eq_true', Bool.not_eq_false', rng_length, dSpan_mk, rng_getD]
 obtain ⟨h1, h2⟩ : a.r.b.length < 1073741824 /\ a.r.l.length < 1073741824 := h
 refine ⟨⟨by omega, by omega⟩, λ hc => ?_, λ hc => ?_⟩
 ·have e0 : (checkRM a.r == 0) = false := by simpa using hc
  have e : atE a = checkRM a.r := by unfold atE; rw [e0]; rfl
  have e2 : atM a = ⟨0, 0⟩ := by unfold atM; rw [e, e0]; rfl
  rw [e2]; exact ⟨rfl, rfl, e⟩
 ·have e1 : checkRM a.r = 0 := by simpa using hc
  have e0 : (checkRM a.r == 0) = true := by simpa using hc
  refine ⟨λ hi => ?_, λ hi => ?_⟩
  ·have e : atE a = 4 := by unfold atE; rw [e0, hi]; rfl
   have e2 : atM a = ⟨0, 0⟩ := by unfold atM; rw [e]; rfl
   rw [e2]; exact ⟨rfl, rfl, e⟩
  ·have e : atE a = 0 := by unfold atE; rw [e0, hi]; rfl
   have e2 : atM a = atF a := by unfold atM; rw [e]; rfl
   have ht : 0 <= a.t /\ a.t <= 2000 := by unfold inM at hi; simpa using hi
   rw [e2]; exact ⟨⟨(checkR_ok e1).1, ht⟩, rfl, rfl, e⟩) (λ _ => noI rfl rfl) _
end Go.Bal
