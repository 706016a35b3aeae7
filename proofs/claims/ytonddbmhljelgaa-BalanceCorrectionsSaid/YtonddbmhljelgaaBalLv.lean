/- The reference: all levels, and what levels prove. -/
import Derived.Test.YtonddbmhljelgaaBalAr
set_option linter.unusedVariables false
set_option linter.unusedSimpArgs false
namespace Go.Bal
open Go Go.Sym Go.Proofs
def eBoolsL (l : List Bool) : DVal := lst 1 l.length fun i => .v (.bool (gD l i))
def eLL (l : List (List Int)) : DVal := lst 1 l.length fun i => eIntsL (gD l i)
def rowLL (l : List (List Int)) : HCell := .live (.row 1 l.length fun i => eIntsL (gD l i))
def dBools (a : AVal) (H : Heap) : Option (List Bool × List Nat) := match dRow a H with
  | some (n, g, f) => some (rng n fun i => dBool (g i), f)
  | none => none
structure LvA where
  N : NetL
  grp : List Bool
  gate : Int
structure LvI where
  s : Nat
  k : Nat
  d : Nat
  i : Nat
  deriving Inhabited
def lvx (a : LvA) (s d : Nat) : Int := bif gD a.grp s then wr (a.gate + ((d : Int) - 1)) else (d : Int) - 1
def lvB (s : Nat) (lv : List Int) (x : Int) (r : Reach) : Bool := (bif decide (r.fr > r.to) then r.fr else r.to) != (s : Int) || inM (wr (x - gD lv (bif decide (r.fr > r.to) then r.to else r.fr).toNat)) (-1) 1
def lvFi (a : LvA) (s : Nat) (lv : List Int) (x : Int) : Nat → Bool
  | 0 => true
  | i + 1 => lvFi a s lv x i && lvB s lv x (gD a.N.r i)
def lvAdd (a : LvA) (s : Nat) (lv : List Int) (d : Nat) : List (List Int) := if lvFi a s lv (lvx a s d) a.N.r.length then [lv ++ [lvx a s d]] else []
def lvD (a : LvA) (s : Nat) (lv : List Int) : Nat → List (List Int)
  | 0 => []
  | d + 1 => lvD a s lv d ++ lvAdd a s lv d
def lvK (a : LvA) (s : Nat) (all : List (List Int)) : Nat → List (List Int)
  | 0 => []
  | k + 1 => lvK a s all k ++ lvD a s (gD all k) 3
def lvAll (a : LvA) : Nat → List (List Int)
  | 0 => [[]]
  | s + 1 => lvK a s (lvAll a s) (lvAll a s).length
def lvNx (a : LvA) (x : LvI) : List (List Int) := lvK a x.s (lvAll a x.s) x.k ++ lvD a x.s (gD (lvAll a x.s) x.k) x.d
def lvSl (a : LvA) (s : Nat) : List (Nat × AVal) := [(1, .d (eBoolsL a.grp)), (2, .int a.gate), (3, .bptr 203 0), (7, .d (eLL (lvAll a s))), (8, .int s)]
def lvSl10 (a : LvA) (x : LvI) (nx : AVal) : List (Nat × AVal) := lvSl a x.s ++ [(9, nx), (10, .int x.k), (11, .int ((x.d : Int) - 1))]
def lvSl17 (a : LvA) (x : LvI) (nx : AVal) : List (Nat × AVal) := lvSl10 a x nx ++ [(12, .int (lvx a x.s x.d)), (13, .bool (lvFi a x.s (gD (lvAll a x.s) x.k) (lvx a x.s x.d) x.i)), (14, .int x.i)]
def lvNil : AVal := .d nilL
def lvOwn (a : LvA) (x : LvI) : AVal := .own 204 1 0 (lvNx a x).length
def lvH (a : LvA) : List (Nat × HCell) := [(203, begO a.N)]
def lvHO (a : LvA) (x : LvI) : List (Nat × HCell) := [(203, begO a.N), (204, rowLL (lvNx a x))]
def lvI3 (a : LvA) (s : Nat) : Prop := s ≤ a.N.g.length
def lvI7 (a : LvA) (gs : List Nat) (x : LvI) : Prop := x.s < a.N.g.length ∧ a.N.g.length - x.s = gs.headD 0 ∧ x.k ≤ (lvAll a x.s).length ∧ x.d = 0
def lvI10 (a : LvA) (m7 m3 : Nat) (x : LvI) : Prop := x.s < a.N.g.length ∧ a.N.g.length - x.s = m3 ∧ x.k < (lvAll a x.s).length ∧ (lvAll a x.s).length - x.k = m7 ∧ x.d ≤ 3
def lvI17 (a : LvA) (m10 m7 m3 : Nat) (x : LvI) : Prop := x.s < a.N.g.length ∧ a.N.g.length - x.s = m3 ∧ x.k < (lvAll a x.s).length ∧ (lvAll a x.s).length - x.k = m7 ∧ x.d < 3 ∧ 3 - x.d = m10 ∧ x.i ≤ a.N.r.length
def lvS7n (a : LvA) (m3 : Nat) : Shape := { α := LvI, dflt := default, T := fun x => ⟨lvSl a x.s ++ [(9, lvNil), (10, .int x.k)], lvH a⟩, inv := fun x => lvI7 a [m3] x ∧ lvNx a x = [], meas := fun x => (lvAll a x.s).length - x.k, tag := [0] }
def lvS7o (a : LvA) (m3 : Nat) : Shape := { α := LvI, dflt := default, T := fun x => ⟨lvSl a x.s ++ [(9, lvOwn a x), (10, .int x.k)], lvHO a x⟩, inv := fun x => lvI7 a [m3] x, meas := fun x => (lvAll a x.s).length - x.k, tag := [1] }
def lvS10n (a : LvA) (m7 m3 : Nat) : Shape := { α := LvI, dflt := default, T := fun x => ⟨lvSl10 a x lvNil, lvH a⟩, inv := fun x => lvI10 a m7 m3 x ∧ lvNx a x = [], meas := fun x => 3 - x.d, tag := [0] }
def lvS10o (a : LvA) (m7 m3 : Nat) : Shape := { α := LvI, dflt := default, T := fun x => ⟨lvSl10 a x (lvOwn a x), lvHO a x⟩, inv := fun x => lvI10 a m7 m3 x, meas := fun x => 3 - x.d, tag := [1] }
def lvS15n (a : LvA) (m10 m7 m3 : Nat) : Shape := { α := LvI, dflt := default, T := fun x => ⟨lvSl10 a x lvNil ++ [(12, .int (lvx a x.s x.d))], lvH a⟩, inv := fun x => lvI17 a m10 m7 m3 x ∧ lvNx a x = [], meas := fun _ => 0 }
def lvS15o (a : LvA) (m10 m7 m3 : Nat) : Shape := { α := LvI, dflt := default, T := fun x => ⟨lvSl10 a x (lvOwn a x) ++ [(12, .int (lvx a x.s x.d))], lvHO a x⟩, inv := fun x => lvI17 a m10 m7 m3 x, meas := fun _ => 0 }
def lvS17n (a : LvA) (m10 m7 m3 : Nat) : Shape := { α := LvI, dflt := default, T := fun x => ⟨lvSl17 a x lvNil, lvH a⟩, inv := fun x => lvI17 a m10 m7 m3 x ∧ lvNx a x = [], meas := fun x => a.N.r.length - x.i }
def lvS17o (a : LvA) (m10 m7 m3 : Nat) : Shape := { α := LvI, dflt := default, T := fun x => ⟨lvSl17 a x (lvOwn a x), lvHO a x⟩, inv := fun x => lvI17 a m10 m7 m3 x, meas := fun x => a.N.r.length - x.i }
def lvSl11 (a : LvA) (x : LvI) (nx : AVal) : List (Nat × AVal) := lvSl a x.s ++ [(9, nx), (10, .int x.k), (11, .int ((x.d : Int) - 1 - 1))]
def lvI11 (a : LvA) (m10 m7 m3 : Nat) (x : LvI) : Prop := lvI10 a m7 m3 x ∧ 3 - x.d + 1 = m10
def lvS11n (a : LvA) (m10 m7 m3 : Nat) : Shape := { α := LvI, dflt := default, T := fun x => ⟨lvSl11 a x lvNil, lvH a⟩, inv := fun x => lvI11 a m10 m7 m3 x ∧ lvNx a x = [], meas := fun _ => 0 }
def lvS11o (a : LvA) (m10 m7 m3 : Nat) : Shape := { α := LvI, dflt := default, T := fun x => ⟨lvSl11 a x (lvOwn a x), lvHO a x⟩, inv := fun x => lvI11 a m10 m7 m3 x, meas := fun _ => 0 }
def lvS11w (a : LvA) (m10 m7 m3 : Nat) : Shape := { lvS11o a m10 m7 m3 with first := [(204, 25176)] }
def A53 (a : LvA) : Ann := { ann 102 [(60, s60)] with md := fun id => if id = 1 then some (fun k => if k = 0 then 2 else 1) else if id = 24 then some (fun k => if k = 9 then 0 else 1) else none, loops := fun id => if id = 3 then some [{ α := Nat, dflt := 0, T := fun s => ⟨lvSl a s, lvH a⟩, inv := fun s => lvI3 a s, meas := fun s => a.N.g.length - s, first := [(203, 1000)], ffz := [2016], afz := [204] }] else none, inner := fun gs id => if id = 7 then some [lvS7n a (gs.getD 0 0), lvS7o a (gs.getD 0 0)] else if id = 10 then if gs.getD 1 0 = 1 then some [lvS10o a (gs.getD 0 0) (gs.getD 2 0)] else some [lvS10n a (gs.getD 0 0) (gs.getD 2 0), lvS10o a (gs.getD 0 0) (gs.getD 2 0)] else if id = 17 then if gs.getD 1 0 = 1 then some [lvS17o a (gs.getD 0 0) (gs.getD 2 0) (gs.getD 4 0)] else some [lvS17n a (gs.getD 0 0) (gs.getD 2 0) (gs.getD 4 0)] else none, cutIn := fun gs id => if id = 15 then if gs.getD 1 0 = 1 then some [lvS15o a (gs.getD 0 0) (gs.getD 2 0) (gs.getD 4 0)] else some [lvS15n a (gs.getD 0 0) (gs.getD 2 0) (gs.getD 4 0)] else if id = 11 then if gs.getD 1 0 = 1 then some [lvS11w a (gs.getD 0 0) (gs.getD 2 0) (gs.getD 4 0), lvS11o a (gs.getD 0 0) (gs.getD 2 0) (gs.getD 4 0)] else some [lvS11w a (gs.getD 0 0) (gs.getD 2 0) (gs.getD 4 0), lvS11n a (gs.getD 0 0) (gs.getD 2 0) (gs.getD 4 0)] else none }
def C53 : Ctr := { α := LvA, xs := fun a => [.d (eNetL a.N), .d (eBoolsL a.grp), .int a.gate], L := fun _ => [], val := fun a => .d (eLL (lvAll a a.N.g.length)), keep := fun _ => [], pre := fun a => [checkL a.N = 0, a.grp.length = a.N.g.length, -1 ≤ a.gate ∧ a.gate ≤ 1] }
def V53 (a : LvA) : Prop := fnVC Try.prog (A53 a) Try.f53 (bodyOf Try.f53) (C53.xs a) (heapOf []) (C53.val a) (C53.keep a) [] []
abbrev z53_0 : Prop := 0 = 0
abbrev z53_1 (a : LvA) : Prop := a.grp.length = a.grp.length
abbrev z53_2 (a : LvA) : Prop := ∀ (i : Nat), i < a.grp.length → gD a.grp i = gD a.grp i
abbrev z53_3 : Prop := 1 ≤ 1
abbrev z53_4 (j : Nat) (a : LvA) (a1 : Nat) : Prop := j < (lvAll a a1).length
abbrev z53_5 (a : LvA) (a1 : Nat) (j : Nat) : Nat := (gD (lvAll a a1) j).length
abbrev z53_6 (i : Nat) (a : LvA) (a1 : Nat) (j : Nat) : Prop := i < z53_5 a a1 j
abbrev z53_7 (a : LvA) (a1 : Nat) (j : Nat) (i : Nat) : Int := gD (gD (lvAll a a1) j) i
abbrev z53_8 (a : LvA) : Prop := a.N.g.length = a.N.g.length
abbrev z53_9 (a : LvA) : Prop := ∀ (i : Nat), i < a.N.g.length → (gD a.N.g i).lo = (gD a.N.g i).lo ∧ (gD a.N.g i).hi = (gD a.N.g i).hi
abbrev z53_10 (a : LvA) : Prop := a.N.r.length = a.N.r.length
abbrev z53_11 (a : LvA) : Prop := ∀ (i : Nat), i < a.N.r.length → (gD a.N.r i).fr = (gD a.N.r i).fr ∧ (gD a.N.r i).to = (gD a.N.r i).to ∧ (gD a.N.r i).sp.lo = (gD a.N.r i).sp.lo ∧ (gD a.N.r i).sp.hi = (gD a.N.r i).sp.hi
abbrev z53_12 (a : LvA) : Prop := z53_8 a ∧ z53_9 a ∧ z53_10 a ∧ z53_11 a
abbrev z53_13 (i : Nat) (a : LvA) (a1 : LvI) : Prop := i < (lvAll a a1.s).length
abbrev z53_14 (a : LvA) (a1 : LvI) (i : Nat) : List Int := gD (lvAll a a1.s) i
abbrev z53_15 (a : LvA) (a1 : LvI) (i : Nat) : Nat := (z53_14 a a1 i).length
abbrev z53_16 (i : Nat) (a : LvA) (a1 : LvI) (i1 : Nat) : Prop := i < z53_15 a a1 i1
abbrev z53_17 (a : LvA) (a1 : LvI) (i : Nat) (i1 : Nat) : Int := gD (z53_14 a a1 i) i1
abbrev z53_18 : Prop := ∀ (i : Nat), i < 0 → false = false
abbrev z53_19 (a : LvI) (a1 : LvA) : Prop := a.s < a1.N.g.length
abbrev z53_20 (a : LvA) (a1 : LvI) : Nat := a.N.g.length - a1.s
abbrev z53_21 (a : LvA) (a1 : Nat) : Nat := a.N.g.length - a1
abbrev z53_22 (a : LvA) (a1 : Nat) : List Nat := z53_21 a a1 :: ([] ++ [])
abbrev z53_23 (a : LvA) (a1 : Nat) : Nat := (z53_22 a a1).getD 0 0
abbrev z53_24 (a : LvI) (a1 : LvA) (a2 : Nat) : Prop := z53_19 a a1 ∧ z53_20 a1 a = [z53_23 a1 a2].headD 0 ∧ a.k ≤ (lvAll a1 a.s).length ∧ a.d = 0
abbrev z53_25 (a : LvA) (a1 : LvI) : Prop := lvNx a a1 = []
abbrev z53_26 (a : LvI) (a1 : LvA) (a2 : Nat) : Prop := z53_24 a a1 a2 ∧ z53_25 a1 a
abbrev z53_27 (a : LvI) (a1 : LvA) : Prop := (↑a.k : Int) < (↑(lvAll a1 a.s).length : Int)
abbrev z53_28 (a : LvI) (a1 : LvA) : Bool := decide (z53_27 a a1)
abbrev z53_29 (a : LvA) (a1 : LvI) (a2 : LvI) : Prop := (lvAll a a1.s).length = (lvAll a a2.s).length
abbrev z53_30 (a : LvA) (a1 : LvI) (a2 : LvI) : Prop := ∀ (i : Nat), z53_13 i a a1 → z53_15 a a1 i = z53_15 a a2 i ∧ ∀ (i_1 : Nat), z53_16 i_1 a a1 i → z53_17 a a1 i i_1 = z53_17 a a2 i i_1
abbrev z53_31 (a : LvI) (a1 : LvI) : Prop := (↑a.s : Int) = (↑a1.s : Int)
abbrev z53_32 (a : LvI) (a1 : LvI) : Prop := (↑a.k : Int) = (↑a1.k : Int)
abbrev z53_33 (a : LvI) : Int := (↑a.d : Int) - 1
abbrev z53_34 (a : LvI) : Prop := z53_33 a = -1
abbrev z53_35 (a : LvA) (a1 : Nat) : Shape := lvS7n a (z53_23 a a1)
abbrev z53_36 (a : LvA) (a1 : Nat) (a2 : LvI) : Nat := (z53_35 a a1).meas a2
abbrev z53_37 (a : LvA) (a1 : Nat) (a2 : LvI) : List Nat := z53_36 a a1 a2 :: ((z53_35 a a1).tag ++ z53_22 a a1)
abbrev z53_38 (a : LvA) (a1 : Nat) (a2 : LvI) : Nat := (z53_37 a a1 a2).getD 2 0
abbrev z53_39 (a : LvI) (a1 : LvA) : Prop := a.k < (lvAll a1 a.s).length
abbrev z53_40 (a : LvA) (a1 : LvI) : Nat := (lvAll a a1.s).length - a1.k
abbrev z53_41 (a : LvA) (a1 : Nat) (a2 : LvI) : Nat := (z53_37 a a1 a2).getD 0 0
abbrev z53_42 (a : LvI) : Prop := a.d ≤ 3
abbrev z53_43 (a : LvI) (a1 : LvA) (a2 : Nat) (a3 : LvI) : Prop := z53_19 a a1 ∧ z53_20 a1 a = z53_38 a1 a2 a3 ∧ z53_39 a a1 ∧ z53_40 a1 a = z53_41 a1 a2 a3 ∧ z53_42 a
abbrev z53_44 (a : LvI) (a1 : LvA) (a2 : Nat) (a3 : LvI) : Prop := z53_43 a a1 a2 a3 ∧ z53_25 a1 a
abbrev z53_45 (a : LvI) : Bool := decide (z53_33 a ≤ 1)
abbrev z53_46 (a : LvI) (a1 : LvA) : Prop := 0 ≤ (↑a.s : Int) ∧ (↑a.s : Int) < (↑a1.grp.length : Int)
abbrev z53_47 (a : LvI) (a1 : LvI) : Prop := z53_33 a = z53_33 a1
abbrev z53_48 (a : LvA) (a1 : LvI) (a2 : LvI) : Prop := lvx a a1.s a1.d = IntKind.i64.wrap (a.gate + z53_33 a2)
abbrev z53_49 (a : LvA) (a1 : Nat) (a2 : LvI) : Shape := lvS10n a (z53_41 a a1 a2) (z53_38 a a1 a2)
abbrev z53_50 (a : LvA) (a1 : Nat) (a2 : LvI) (a3 : LvI) : Nat := (z53_49 a a1 a2).meas a3
abbrev z53_51 (a : LvA) (a1 : Nat) (a2 : LvI) (a3 : LvI) : List Nat := z53_50 a a1 a2 a3 :: ((z53_49 a a1 a2).tag ++ z53_37 a a1 a2)
abbrev z53_52 (a : LvA) (a1 : Nat) (a2 : LvI) (a3 : LvI) : Nat := (z53_51 a a1 a2 a3).getD 4 0
abbrev z53_53 (a : LvA) (a1 : LvI) (a2 : Nat) (a3 : LvI) (a4 : LvI) : Prop := z53_20 a a1 = z53_52 a a2 a3 a4
abbrev z53_54 (a : LvA) (a1 : Nat) (a2 : LvI) (a3 : LvI) : Nat := (z53_51 a a1 a2 a3).getD 2 0
abbrev z53_55 (a : LvA) (a1 : LvI) (a2 : Nat) (a3 : LvI) (a4 : LvI) : Prop := z53_40 a a1 = z53_54 a a2 a3 a4
abbrev z53_56 (a : LvI) : Prop := a.d < 3
abbrev z53_57 (a : LvI) : Nat := 3 - a.d
abbrev z53_58 (a : LvA) (a1 : Nat) (a2 : LvI) (a3 : LvI) : Nat := (z53_51 a a1 a2 a3).getD 0 0
abbrev z53_59 (a : LvI) (a1 : LvA) : Prop := a.i ≤ a1.N.r.length
abbrev z53_60 (a : LvI) (a1 : LvA) (a2 : Nat) (a3 : LvI) (a4 : LvI) : Prop := (z53_19 a a1 ∧ z53_53 a1 a a2 a3 a4 ∧ z53_39 a a1 ∧ z53_55 a1 a a2 a3 a4 ∧ z53_56 a ∧ z53_57 a = z53_58 a1 a2 a3 a4 ∧ z53_59 a a1) ∧ z53_25 a1
 a
abbrev z53_61 (a : LvA) (a1 : LvI) (a2 : LvI) : Prop := lvx a a1.s a1.d = z53_33 a2
abbrev z53_62 (a : LvA) (a1 : LvI) (a2 : LvI) : Prop := lvx a a1.s a1.d = lvx a a2.s a2.d
abbrev z53_63 (a : LvA) (a1 : LvI) : List Int := gD (lvAll a a1.s) a1.k
abbrev z53_64 (a : LvA) (a1 : LvI) : Bool := lvFi a a1.s (z53_63 a a1) (lvx a a1.s a1.d) a1.i
abbrev z53_65 (a : LvA) (a1 : LvI) : Prop := z53_64 a a1 = true
abbrev z53_66 (a : LvI) : Prop := (↑a.i : Int) = 0
abbrev z53_67 (a : LvA) (a1 : Nat) (a2 : LvI) (a3 : LvI) : List Nat := (lvS15n a (z53_58 a a1 a2 a3) (z53_54 a a1 a2 a3) (z53_52 a a1 a2 a3)).tag ++ z53_51 a a1 a2 a3
abbrev z53_68 (a : LvA) (a1 : Nat) (a2 : LvI) (a3 : LvI) : Nat := (z53_67 a a1 a2 a3).getD 4 0
abbrev z53_69 (a : LvA) (a1 : Nat) (a2 : LvI) (a3 : LvI) : Nat := (z53_67 a a1 a2 a3).getD 2 0
abbrev z53_70 (a : LvA) (a1 : Nat) (a2 : LvI) (a3 : LvI) : Nat := (z53_67 a a1 a2 a3).getD 0 0
abbrev z53_71 (a : LvI) (a1 : LvA) (a2 : Nat) (a3 : LvI) (a4 : LvI) : Prop := (z53_19 a a1 ∧ z53_20 a1 a = z53_68 a1 a2 a3 a4 ∧ z53_39 a a1 ∧ z53_40 a1 a = z53_69 a1 a2 a3 a4 ∧ z53_56 a ∧ z53_57 a = z53_70 a1 a2 a3 a4 ∧
 z53_59 a a1) ∧ z53_25 a1 a
abbrev z53_72 (a : LvI) (a1 : LvA) : Prop := (↑a.i : Int) < (↑a1.N.r.length : Int)
abbrev z53_73 (a : LvI) (a1 : LvA) : Bool := decide (z53_72 a a1)
abbrev z53_74 (a : LvI) (a1 : LvA) : Prop := 0 ≤ (↑a.i : Int) ∧ z53_72 a a1
abbrev z53_75 (a : LvI) (a1 : LvA) : Prop := z53_74 a a1 ∧ z53_74 a a1
abbrev z53_76 (a : LvA) (a1 : LvI) : Bool := decide ((gD a.N.r a1.i).fr > (gD a.N.r a1.i).to)
abbrev z53_77 (a : LvA) (a1 : LvI) : Bool := (gD a.N.r a1.i).fr != (↑a1.s : Int)
abbrev z53_78 (a : LvA) (a1 : LvI) : Prop := (z53_64 a a1 && !z53_77 a a1) = true
abbrev z53_79 (a : LvI) (a1 : LvA) : Prop := 0 ≤ (↑a.k : Int) ∧ z53_27 a a1
abbrev z53_80 (a : LvA) (a1 : LvI) : Nat := (z53_63 a a1).length
abbrev z53_81 (a : LvA) (a1 : LvI) : Prop := (z53_78 a a1 → z53_79 a1 a) ∧ (z53_78 a a1 → 0 ≤ (gD a.N.r a1.i).to ∧ (gD a.N.r a1.i).to < (↑(z53_80 a a1) : Int))
abbrev z53_82 (a : LvA) (a1 : LvI) (a2 : LvI) : Prop := z53_64 a a1 = bif z53_64 a a2 then bif z53_77 a a2 then true else !!inM (IntKind.i64.wrap (lvx a a2.s a2.d - gD (z53_63 a a2) (gD a.N.r a2.i).to.toNat)) (-1) 1 else
 false
abbrev z53_83 (a : LvI) (a1 : LvI) : Prop := (↑a.i : Int) = IntKind.i64.wrap ((↑a1.i : Int) + 1)
abbrev z53_84 (a : LvI) (a1 : LvI) (a2 : LvA) : Prop := z53_83 a a1 ∧ z53_12 a2
abbrev z53_85 (a : LvA) (a1 : Nat) (a2 : LvI) (a3 : LvI) (a4 : LvI) : Nat := (lvS17n a (z53_70 a a1 a2 a3) (z53_69 a a1 a2 a3) (z53_68 a a1 a2 a3)).meas a4
abbrev z53_86 (a : LvI) (a1 : LvA) (a2 : Nat) (a3 : LvI) (a4 : LvI) (a5 : LvI) : Prop := z53_71 a a1 a2 a3 a4 ∧ z53_85 a1 a2 a3 a4 a < z53_85 a1 a2 a3 a4 a5
abbrev z53_87 (a : LvA) (a1 : LvI) : Bool := (gD a.N.r a1.i).to != (↑a1.s : Int)
abbrev z53_88 (a : LvA) (a1 : LvI) : Prop := (z53_64 a a1 && !z53_87 a a1) = true
abbrev z53_89 (a : LvA) (a1 : LvI) : Prop := (z53_88 a a1 → z53_79 a1 a) ∧ (z53_88 a a1 → 0 ≤ (gD a.N.r a1.i).fr ∧ (gD a.N.r a1.i).fr < (↑(z53_80 a a1) : Int))
abbrev z53_90 (a : LvA) (a1 : LvI) (a2 : LvI) : Prop := z53_64 a a1 = bif z53_64 a a2 then bif z53_87 a a2 then true else !!inM (IntKind.i64.wrap (lvx a a2.s a2.d - gD (z53_63 a a2) (gD a.N.r a2.i).fr.toNat)) (-1) 1 else
 false
abbrev z53_91 : Prop := 0 < 0
abbrev z53_92 : Prop := 1 = 1
abbrev z53_93 (a : LvA) (a1 : LvI) : Prop := 0 < z53_80 a a1
abbrev z53_94 (a : LvA) (a1 : LvI) : Nat := 0 + z53_80 a a1
abbrev z53_95 (a : LvA) (a1 : LvI) : Prop := (z53_0 ∧ (z53_91 → z53_92)) ∧ (True ∧ (z53_93 a a1 → z53_92)) ∧ (false = true → z53_93 a a1) ∧ z53_94 a a1 ≤ 9223372036854775807 ∧ z53_94 a a1 * 8 ≤ 140737488355328
abbrev z53_96 : Prop := 0 < 1
abbrev z53_97 : Prop := z53_3 ∧ (z53_96 → z53_92)
abbrev z53_98 : Prop := false = true → z53_96
abbrev z53_99 (a : LvA) (a1 : LvI) : Nat := z53_94 a a1 + 1
abbrev z53_100 (a : LvA) (a1 : LvI) : Prop := (z53_94 a a1 = z53_94 a a1 ∧ (0 < z53_94 a a1 → z53_92)) ∧ z53_97 ∧ z53_98 ∧ z53_99 a a1 ≤ 9223372036854775807 ∧ z53_99 a a1 * 8 ≤ 140737488355328
abbrev z53_101 (a : LvA) (a1 : LvI) : Prop := (lvNx a a1).length = 1
abbrev z53_102 (a : LvI) : Int := z53_33 a - 1
abbrev z53_103 (a : LvI) (a1 : LvI) : Prop := z53_102 a = z53_33 a1
abbrev z53_104 (i : Nat) (a : LvA) (a1 : LvI) : Prop := i < (lvNx a a1).length
abbrev z53_105 (a : LvA) (a1 : LvI) (i : Nat) : Nat := (gD (lvNx a a1) i).length
abbrev z53_106 (i : Nat) (a : LvA) (a1 : LvI) (i1 : Nat) : Prop := i < z53_105 a a1 i1
abbrev z53_107 (a : LvA) (a1 : LvI) (i : Nat) (i1 : Nat) : Int := gD (gD (lvNx a a1) i) i1
abbrev z53_108 (i : Nat) (a : LvA) (a1 : LvI) : Int := bif decide (i < z53_94 a a1) then gD (z53_63 a a1) (i - 0) else lvx a a1.s a1.d
abbrev z53_109 (a : LvI) : Nat := z53_57 a + 1
abbrev z53_110 (a : LvI) (a1 : LvA) (a2 : Nat) (a3 : LvI) (a4 : LvI) : Prop := (z53_19 a a1 ∧ z53_53 a1 a a2 a3 a4 ∧ z53_39 a a1 ∧ z53_55 a1 a a2 a3 a4 ∧ z53_42 a) ∧ z53_109 a = z53_58 a1 a2 a3 a4
abbrev z53_111 (a : LvI) (a1 : LvA) (a2 : Nat) (a3 : LvI) (a4 : LvI) : Prop := z53_110 a a1 a2 a3 a4 ∧ z53_25 a1 a
abbrev z53_112 (a : LvA) (a1 : LvI) (a2 : LvI) : Prop := (lvNx a a1).length = (lvNx a a2).length
abbrev z53_113 (a : LvI) (a1 : LvI) : Prop := z53_33 a = IntKind.i64.wrap (z53_102 a1 + 1)
abbrev z53_114 (a : LvA) (a1 : LvI) (a2 : LvI) : Prop := z53_8 a ∧ z53_9 a ∧ z53_10 a ∧ z53_11 a ∧ z53_112 a a1 a2 ∧ ∀ (i : Nat), z53_104 i a a1 → z53_105 a a1 i = z53_105 a a2 i ∧ ∀ (i_1 : Nat), z53_106 i_1 a a1 i →
 z53_107 a a1 i i_1 = z53_107 a a2 i i_1
abbrev z53_115 (a : LvA) (a1 : LvI) (a2 : LvI) : Prop := z53_1 a ∧ z53_2 a ∧ a.gate = a.gate ∧ z53_29 a a1 a2 ∧ z53_30 a a1 a2 ∧ z53_31 a1 a2 ∧ z53_0 ∧ z53_112 a a1 a2 ∧ z53_32 a1 a2 ∧ z53_113 a1 a2 ∧ z53_114 a a1 a2
abbrev z53_116 (a : LvA) (a1 : Nat) (a2 : LvI) : Shape := lvS10o a (z53_41 a a1 a2) (z53_38 a a1 a2)
abbrev z53_117 (a : LvA) (a1 : Nat) (a2 : LvI) (a3 : LvI) : Nat := (z53_116 a a1 a2).meas a3
abbrev z53_118 (a : LvI) (a1 : LvI) : Prop := (↑a.k : Int) = IntKind.i64.wrap ((↑a1.k : Int) + 1)
abbrev z53_119 (a : LvA) (a1 : LvI) (a2 : LvI) : Prop := z53_1 a ∧ z53_2 a ∧ a.gate = a.gate ∧ z53_29 a a1 a2 ∧ z53_30 a a1 a2 ∧ z53_31 a1 a2 ∧ z53_0 ∧ z53_112 a a1 a2 ∧ z53_32 a1 a2 ∧ z53_47 a1 a2 ∧ z53_48 a a1 a2 ∧
 z53_114 a a1 a2
abbrev z53_120 (a : LvA) (a1 : Nat) (a2 : LvI) (a3 : LvI) : List Nat := z53_117 a a1 a2 a3 :: ((z53_116 a a1 a2).tag ++ z53_37 a a1 a2)
abbrev z53_121 (a : LvA) (a1 : Nat) (a2 : LvI) (a3 : LvI) : Nat := (z53_120 a a1 a2 a3).getD 4 0
abbrev z53_122 (a : LvA) (a1 : LvI) (a2 : Nat) (a3 : LvI) (a4 : LvI) : Prop := z53_20 a a1 = z53_121 a a2 a3 a4
abbrev z53_123 (a : LvA) (a1 : Nat) (a2 : LvI) (a3 : LvI) : Nat := (z53_120 a a1 a2 a3).getD 2 0
abbrev z53_124 (a : LvA) (a1 : LvI) (a2 : Nat) (a3 : LvI) (a4 : LvI) : Prop := z53_40 a a1 = z53_123 a a2 a3 a4
abbrev z53_125 (a : LvA) (a1 : Nat) (a2 : LvI) (a3 : LvI) : Nat := (z53_120 a a1 a2 a3).getD 0 0
abbrev z53_126 (a : LvI) (a1 : LvA) (a2 : Nat) (a3 : LvI) (a4 : LvI) : Prop := z53_19 a a1 ∧ z53_122 a1 a a2 a3 a4 ∧ z53_39 a a1 ∧ z53_124 a1 a a2 a3 a4 ∧ z53_56 a ∧ z53_57 a = z53_125 a1 a2 a3 a4 ∧ z53_59 a a1
abbrev z53_127 (a : LvA) (a1 : LvI) (a2 : LvI) : Prop := z53_1 a ∧ z53_2 a ∧ a.gate = a.gate ∧ z53_29 a a1 a2 ∧ z53_30 a a1 a2 ∧ z53_31 a1 a2 ∧ z53_0 ∧ z53_112 a a1 a2 ∧ z53_32 a1 a2 ∧ z53_47 a1 a2 ∧ z53_61 a a1 a2 ∧
 z53_114 a a1 a2
abbrev z53_128 (a : LvA) (a1 : LvI) (a2 : LvI) : Prop := z53_1 a ∧ z53_2 a ∧ a.gate = a.gate ∧ z53_29 a a1 a2 ∧ z53_30 a a1 a2 ∧ z53_31 a1 a2 ∧ z53_0 ∧ z53_112 a a1 a2 ∧ z53_32 a1 a2 ∧ z53_47 a1 a2 ∧ z53_62 a a1 a2 ∧
 z53_65 a a1 ∧ z53_66 a1 ∧ z53_114 a a1 a2
abbrev z53_129 (a : LvA) (a1 : Nat) (a2 : LvI) (a3 : LvI) : List Nat := (lvS15o a (z53_125 a a1 a2 a3) (z53_123 a a1 a2 a3) (z53_121 a a1 a2 a3)).tag ++ z53_120 a a1 a2 a3
abbrev z53_130 (a : LvA) (a1 : Nat) (a2 : LvI) (a3 : LvI) : Nat := (z53_129 a a1 a2 a3).getD 4 0
abbrev z53_131 (a : LvA) (a1 : Nat) (a2 : LvI) (a3 : LvI) : Nat := (z53_129 a a1 a2 a3).getD 2 0
abbrev z53_132 (a : LvA) (a1 : Nat) (a2 : LvI) (a3 : LvI) : Nat := (z53_129 a a1 a2 a3).getD 0 0
abbrev z53_133 (a : LvI) (a1 : LvA) (a2 : Nat) (a3 : LvI) (a4 : LvI) : Prop := z53_19 a a1 ∧ z53_20 a1 a = z53_130 a1 a2 a3 a4 ∧ z53_39 a a1 ∧ z53_40 a1 a = z53_131 a1 a2 a3 a4 ∧ z53_56 a ∧ z53_57 a = z53_132 a1 a2 a3 a4
 ∧ z53_59 a a1
abbrev z53_134 (a : LvI) (a1 : LvI) (a2 : LvA) : Prop := z53_83 a a1 ∧ z53_114 a2 a a1
abbrev z53_135 (a : LvA) (a1 : LvI) (a2 : LvI) : Prop := z53_1 a ∧ z53_2 a ∧ a.gate = a.gate ∧ z53_29 a a1 a2 ∧ z53_30 a a1 a2 ∧ z53_31 a1 a2 ∧ z53_0 ∧ z53_112 a a1 a2 ∧ z53_32 a1 a2 ∧ z53_47 a1 a2 ∧ z53_62 a a1 a2 ∧
 z53_82 a a1 a2 ∧ z53_134 a1 a2 a
abbrev z53_136 (a : LvA) (a1 : Nat) (a2 : LvI) (a3 : LvI) (a4 : LvI) : Nat := (lvS17o a (z53_132 a a1 a2 a3) (z53_131 a a1 a2 a3) (z53_130 a a1 a2 a3)).meas a4
abbrev z53_137 (a : LvI) (a1 : LvA) (a2 : Nat) (a3 : LvI) (a4 : LvI) (a5 : LvI) : Prop := z53_133 a a1 a2 a3 a4 ∧ z53_136 a1 a2 a3 a4 a < z53_136 a1 a2 a3 a4 a5
abbrev z53_138 (a : LvA) (a1 : LvI) (a2 : LvI) : Prop := z53_1 a ∧ z53_2 a ∧ a.gate = a.gate ∧ z53_29 a a1 a2 ∧ z53_30 a a1 a2 ∧ z53_31 a1 a2 ∧ z53_0 ∧ z53_112 a a1 a2 ∧ z53_32 a1 a2 ∧ z53_47 a1 a2 ∧ z53_62 a a1 a2 ∧
 z53_90 a a1 a2 ∧ z53_134 a1 a2 a
abbrev z53_139 (a : LvA) (a1 : LvI) : Nat := (lvNx a a1).length + 1
abbrev z53_140 (a : LvA) (a1 : LvI) : Prop := ((lvNx a a1).length = (lvNx a a1).length ∧ (0 < (lvNx a a1).length → z53_92)) ∧ z53_97 ∧ z53_98 ∧ z53_139 a a1 ≤ 9223372036854775807 ∧ z53_139 a a1 * 24 ≤ 140737488355328
abbrev z53_141 (a : LvA) (a1 : LvI) (a2 : LvI) : Prop := (lvNx a a1).length = z53_139 a a2
abbrev z53_142 (i : Nat) (a : LvA) (a1 : LvI) : Bool := decide (z53_104 i a a1)
abbrev z53_143 (a : LvA) (a1 : LvI) (a2 : LvI) : Prop := z53_1 a ∧ z53_2 a ∧ a.gate = a.gate ∧ z53_29 a a1 a2 ∧ z53_30 a a1 a2 ∧ z53_31 a1 a2 ∧ z53_0 ∧ z53_141 a a1 a2 ∧ z53_32 a1 a2 ∧ z53_103 a1 a2 ∧ z53_8 a ∧ z53_9 a ∧
 z53_10 a ∧ z53_11 a ∧ z53_141 a a1 a2 ∧ ∀ (i : Nat), z53_104 i a a1 → (z53_105 a a1 i = bif z53_142 i a a2 then z53_105 a a2 i else z53_99 a a2) ∧ ∀ (i_1 : Nat), z53_106 i_1 a a1 i → z53_107 a a1 i i_1 = bif z53_142 i a
 a2 then z53_107 a a2 i i_1 else z53_108 i_1 a a2
abbrev z53_144 (a : LvI) (a1 : LvA) (a2 : Nat) (a3 : LvI) (a4 : LvI) : Prop := (z53_19 a a1 ∧ z53_122 a1 a a2 a3 a4 ∧ z53_39 a a1 ∧ z53_124 a1 a a2 a3 a4 ∧ z53_42 a) ∧ z53_109 a = z53_125 a1 a2 a3 a4
abbrev z53_145 (a : LvA) (a1 : LvI) (a2 : LvI) : Prop := z53_1 a ∧ z53_2 a ∧ a.gate = a.gate ∧ z53_29 a a1 a2 ∧ z53_30 a a1 a2 ∧ z53_31 a1 a2 ∧ z53_0 ∧ z53_112 a a1 a2 ∧ z53_32 a1 a2 ∧ z53_103 a1 a2 ∧ z53_114 a a1 a2
abbrev z53_146 (a : LvA) (a1 : Nat) (a2 : LvI) (a3 : LvI) : Prop := ∀ (a_1 : LvI), z53_144 a_1 a a1 a2 a3 → ∃ (a_3 : LvI), z53_115 a a_3 a_1 ∧ z53_43 a_3 a a1 a2 ∧ z53_117 a a1 a2 a_3 < z53_117 a a1 a2 a3
abbrev z53_147 (a : LvA) (a1 : LvI) (a2 : LvI) : Prop := z53_1 a ∧ z53_2 a ∧ a.gate = a.gate ∧ z53_29 a a1 a2 ∧ z53_30 a a1 a2 ∧ z53_31 a1 a2 ∧ z53_0 ∧ z53_112 a a1 a2 ∧ z53_118 a1 a2 ∧ z53_114 a a1 a2
abbrev z53_148 (a : LvA) (a1 : Nat) : Shape := lvS7o a (z53_23 a a1)
abbrev z53_149 (a : LvA) (a1 : Nat) (a2 : LvI) : Nat := (z53_148 a a1).meas a2
abbrev z53_150 (a : LvA) (a1 : Nat) : Prop := (lvAll a a1).length = 0
abbrev z53_151 (a : Nat) (a1 : LvI) (a2 : LvA) : Prop := (↑a : Int) = IntKind.i64.wrap ((↑a1.s : Int) + 1) ∧ z53_12 a2
abbrev z53_152 (a : Nat) (a1 : LvA) (a2 : Nat) : Prop := a.le a1.N.g.length ∧ z53_21 a1 a < z53_21 a1 a2
abbrev z53_153 (a : LvA) (a1 : Nat) (a2 : LvI) : List Nat := z53_149 a a1 a2 :: ((z53_148 a a1).tag ++ z53_22 a a1)
abbrev z53_154 (a : LvA) (a1 : Nat) (a2 : LvI) : Nat := (z53_153 a a1 a2).getD 2 0
abbrev z53_155 (a : LvA) (a1 : Nat) (a2 : LvI) : Nat := (z53_153 a a1 a2).getD 0 0
abbrev z53_156 (a : LvI) (a1 : LvA) (a2 : Nat) (a3 : LvI) : Prop := z53_19 a a1 ∧ z53_20 a1 a = z53_154 a1 a2 a3 ∧ z53_39 a a1 ∧ z53_40 a1 a = z53_155 a1 a2 a3 ∧ z53_42 a
abbrev z53_157 (a : LvA) (a1 : Nat) (a2 : LvI) : Shape := lvS10o a (z53_155 a a1 a2) (z53_154 a a1 a2)
abbrev z53_158 (a : LvA) (a1 : Nat) (a2 : LvI) (a3 : LvI) : Nat := (z53_157 a a1 a2).meas a3
abbrev z53_159 (a : LvA) (a1 : Nat) (a2 : LvI) (a3 : LvI) : List Nat := z53_158 a a1 a2 a3 :: ((z53_157 a a1 a2).tag ++ z53_153 a a1 a2)
abbrev z53_160 (a : LvA) (a1 : Nat) (a2 : LvI) (a3 : LvI) : Nat := (z53_159 a a1 a2 a3).getD 4 0
abbrev z53_161 (a : LvA) (a1 : LvI) (a2 : Nat) (a3 : LvI) (a4 : LvI) : Prop := z53_20 a a1 = z53_160 a a2 a3 a4
abbrev z53_162 (a : LvA) (a1 : Nat) (a2 : LvI) (a3 : LvI) : Nat := (z53_159 a a1 a2 a3).getD 2 0
abbrev z53_163 (a : LvA) (a1 : LvI) (a2 : Nat) (a3 : LvI) (a4 : LvI) : Prop := z53_40 a a1 = z53_162 a a2 a3 a4
abbrev z53_164 (a : LvA) (a1 : Nat) (a2 : LvI) (a3 : LvI) : Nat := (z53_159 a a1 a2 a3).getD 0 0
abbrev z53_165 (a : LvI) (a1 : LvA) (a2 : Nat) (a3 : LvI) (a4 : LvI) : Prop := z53_19 a a1 ∧ z53_161 a1 a a2 a3 a4 ∧ z53_39 a a1 ∧ z53_163 a1 a a2 a3 a4 ∧ z53_56 a ∧ z53_57 a = z53_164 a1 a2 a3 a4 ∧ z53_59 a a1
abbrev z53_166 (a : LvA) (a1 : Nat) (a2 : LvI) (a3 : LvI) : List Nat := (lvS15o a (z53_164 a a1 a2 a3) (z53_162 a a1 a2 a3) (z53_160 a a1 a2 a3)).tag ++ z53_159 a a1 a2 a3
abbrev z53_167 (a : LvA) (a1 : Nat) (a2 : LvI) (a3 : LvI) : Nat := (z53_166 a a1 a2 a3).getD 4 0
abbrev z53_168 (a : LvA) (a1 : Nat) (a2 : LvI) (a3 : LvI) : Nat := (z53_166 a a1 a2 a3).getD 2 0
abbrev z53_169 (a : LvA) (a1 : Nat) (a2 : LvI) (a3 : LvI) : Nat := (z53_166 a a1 a2 a3).getD 0 0
abbrev z53_170 (a : LvI) (a1 : LvA) (a2 : Nat) (a3 : LvI) (a4 : LvI) : Prop := z53_19 a a1 ∧ z53_20 a1 a = z53_167 a1 a2 a3 a4 ∧ z53_39 a a1 ∧ z53_40 a1 a = z53_168 a1 a2 a3 a4 ∧ z53_56 a ∧ z53_57 a = z53_169 a1 a2 a3 a4
 ∧ z53_59 a a1
abbrev z53_171 (a : LvA) (a1 : Nat) (a2 : LvI) (a3 : LvI) (a4 : LvI) : Nat := (lvS17o a (z53_169 a a1 a2 a3) (z53_168 a a1 a2 a3) (z53_167 a a1 a2 a3)).meas a4
abbrev z53_172 (a : LvI) (a1 : LvA) (a2 : Nat) (a3 : LvI) (a4 : LvI) (a5 : LvI) : Prop := z53_170 a a1 a2 a3 a4 ∧ z53_171 a1 a2 a3 a4 a < z53_171 a1 a2 a3 a4 a5
abbrev z53_173 (a : LvI) (a1 : LvA) (a2 : Nat) (a3 : LvI) (a4 : LvI) : Prop := (z53_19 a a1 ∧ z53_161 a1 a a2 a3 a4 ∧ z53_39 a a1 ∧ z53_163 a1 a a2 a3 a4 ∧ z53_42 a) ∧ z53_109 a = z53_164 a1 a2 a3 a4
abbrev z53_174 (a : LvA) (a1 : Nat) (a2 : LvI) (a3 : LvI) : Prop := ∀ (a_1 : LvI), z53_173 a_1 a a1 a2 a3 → ∃ (a_3 : LvI), z53_115 a a_3 a_1 ∧ z53_156 a_3 a a1 a2 ∧ z53_158 a a1 a2 a_3 < z53_158 a a1 a2 a3
abbrev z53_175 (a : LvA) (a1 : LvI) (j : Nat) : List Int := gD (lvNx a a1) (0 + j)
abbrev z53_176 (a : LvA) : Nat := (lvAll a a.N.g.length).length
abbrev z53_177 (a : LvA) (i : Nat) : List Int := gD (lvAll a a.N.g.length) i
abbrev z53_178 (a : LvA) (i : Nat) : Nat := (z53_177 a i).length
theorem vc53 (a : LvA) : (V53 a) = (z53_0 ∧ (∃ (a_1 : Nat), (z53_1 a ∧ z53_2 a ∧ a.gate = a.gate ∧ (lvAll a a_1).length = 1 ∧ z53_3 ∧ (∀ (j : Nat), z53_4 j a a_1 → z53_5 a a_1 j = 0 ∧ ∀ (i : Nat), z53_6 i a a_1 j →
 Value.int IntKind.i64 (z53_7 a a_1 j i) = default) ∧ (↑a_1 : Int) = 0 ∧ z53_12 a) ∧ a_1.le a.N.g.length) ∧ ∀ (a_1 : Nat), a_1.le a.N.g.length → bif decide ((↑a_1 : Int) < (↑a.N.g.length : Int)) then (∃ (a_3 : LvI),
 (z53_1 a ∧ z53_2 a ∧ a.gate = a.gate ∧ (lvAll a a_3.s).length = (lvAll a a_1).length ∧ (∀ (i : Nat), z53_13 i a a_3 → z53_15 a a_3 i = z53_5 a a_1 i ∧ ∀ (i_1 : Nat), z53_16 i_1 a a_3 i → z53_17 a a_3 i i_1 = z53_7 a a_1
 i i_1) ∧ (↑a_3.s : Int) = (↑a_1 : Int) ∧ z53_0 ∧ z53_18 ∧ (↑a_3.k : Int) = 0 ∧ z53_12 a) ∧ z53_26 a_3 a a_1) ∧ (∀ (a_3 : LvI), z53_26 a_3 a a_1 → bif z53_28 a_3 a then (∃ (a_5 : LvI), (z53_1 a ∧ z53_2 a ∧ a.gate = a.gate
 ∧ z53_29 a a_5 a_3 ∧ z53_30 a a_5 a_3 ∧ z53_31 a_5 a_3 ∧ z53_0 ∧ z53_18 ∧ z53_32 a_5 a_3 ∧ z53_34 a_5 ∧ z53_12 a) ∧ z53_44 a_5 a a_1 a_3) ∧ (∀ (a_5 : LvI), z53_44 a_5 a a_1 a_3 → bif z53_45 a_5 then ((z53_46 a_5 a ∧ bif
 gD a.grp a_5.s then ∃ (a_7 : LvI), (z53_1 a ∧ z53_2 a ∧ a.gate = a.gate ∧ z53_29 a a_7 a_5 ∧ z53_30 a a_7 a_5 ∧ z53_31 a_7 a_5 ∧ z53_0 ∧ z53_18 ∧ z53_32 a_7 a_5 ∧ z53_47 a_7 a_5 ∧ z53_48 a a_7 a_5 ∧ z53_12 a) ∧ z53_60
 a_7 a a_1 a_3 a_5 else ∃ (a_7 : LvI), (z53_1 a ∧ z53_2 a ∧ a.gate = a.gate ∧ z53_29 a a_7 a_5 ∧ z53_30 a a_7 a_5 ∧ z53_31 a_7 a_5 ∧ z53_0 ∧ z53_18 ∧ z53_32 a_7 a_5 ∧ z53_47 a_7 a_5 ∧ z53_61 a a_7 a_5 ∧ z53_12 a) ∧ z53_60
 a_7 a a_1 a_3 a_5) ∧ ∀ (a_7 : LvI), z53_60 a_7 a a_1 a_3 a_5 → (∃ (a_9 : LvI), (z53_1 a ∧ z53_2 a ∧ a.gate = a.gate ∧ z53_29 a a_9 a_7 ∧ z53_30 a a_9 a_7 ∧ z53_31 a_9 a_7 ∧ z53_0 ∧ z53_18 ∧ z53_32 a_9 a_7 ∧ z53_47 a_9
 a_7 ∧ z53_62 a a_9 a_7 ∧ z53_65 a a_9 ∧ z53_66 a_9 ∧ z53_12 a) ∧ z53_71 a_9 a a_1 a_3 a_5) ∧ ∀ (a_9 : LvI), z53_71 a_9 a a_1 a_3 a_5 → bif z53_73 a_9 a then z53_75 a_9 a ∧ bif z53_76 a a_9 then z53_81 a a_9 ∧ ∃ (a_11 :
 LvI), (z53_1 a ∧ z53_2 a ∧ a.gate = a.gate ∧ z53_29 a a_11 a_9 ∧ z53_30 a a_11 a_9 ∧ z53_31 a_11 a_9 ∧ z53_0 ∧ z53_18 ∧ z53_32 a_11 a_9 ∧ z53_47 a_11 a_9 ∧ z53_62 a a_11 a_9 ∧ z53_82 a a_11 a_9 ∧ z53_84 a_11 a_9 a) ∧
 z53_86 a_11 a a_1 a_3 a_5 a_9 else z53_89 a a_9 ∧ ∃ (a_11 : LvI), (z53_1 a ∧ z53_2 a ∧ a.gate = a.gate ∧ z53_29 a a_11 a_9 ∧ z53_30 a a_11 a_9 ∧ z53_31 a_11 a_9 ∧ z53_0 ∧ z53_18 ∧ z53_32 a_11 a_9 ∧ z53_47 a_11 a_9 ∧
 z53_62 a a_11 a_9 ∧ z53_90 a a_11 a_9 ∧ z53_84 a_11 a_9 a) ∧ z53_86 a_11 a a_1 a_3 a_5 a_9 else bif z53_64 a a_9 then z53_79 a_9 a ∧ z53_95 a a_9 ∧ z53_100 a a_9 ∧ ((True ∧ (z53_91 → 0 = 1)) ∧ z53_97 ∧ (true = true →
 z53_96) ∧ 1 ≤ 9223372036854775807 ∧ 24 ≤ 140737488355328) ∧ ∃ (a_11 : LvI), (z53_1 a ∧ z53_2 a ∧ a.gate = a.gate ∧ z53_29 a a_11 a_9 ∧ z53_30 a a_11 a_9 ∧ z53_31 a_11 a_9 ∧ z53_0 ∧ z53_101 a a_11 ∧ z53_32 a_11 a_9 ∧
 z53_103 a_11 a_9 ∧ z53_8 a ∧ z53_9 a ∧ z53_10 a ∧ z53_11 a ∧ z53_101 a a_11 ∧ ∀ (i : Nat), z53_104 i a a_11 → z53_105 a a_11 i = z53_99 a a_9 ∧ ∀ (i_1 : Nat), z53_106 i_1 a a_11 i → z53_107 a a_11 i i_1 = z53_108 i_1 a
 a_9) ∧ z53_110 a_11 a a_1 a_3 a_5 else ∃ (a_11 : LvI), (z53_1 a ∧ z53_2 a ∧ a.gate = a.gate ∧ z53_29 a a_11 a_9 ∧ z53_30 a a_11 a_9 ∧ z53_31 a_11 a_9 ∧ z53_0 ∧ z53_18 ∧ z53_32 a_11 a_9 ∧ z53_103 a_11 a_9 ∧ z53_12 a) ∧
 z53_111 a_11 a a_1 a_3 a_5) ∧ (∀ (a_7 : LvI), z53_110 a_7 a a_1 a_3 a_5 → ∃ (a_9 : LvI), z53_115 a a_9 a_7 ∧ z53_43 a_9 a a_1 a_3 ∧ z53_117 a a_1 a_3 a_9 < z53_50 a a_1 a_3 a_5) ∧ ∀ (a_7 : LvI), z53_111 a_7 a a_1 a_3 a_5
 → ∃ (a_9 : LvI), (z53_1 a ∧ z53_2 a ∧ a.gate = a.gate ∧ z53_29 a a_9 a_7 ∧ z53_30 a a_9 a_7 ∧ z53_31 a_9 a_7 ∧ z53_0 ∧ z53_18 ∧ z53_32 a_9 a_7 ∧ z53_113 a_9 a_7 ∧ z53_12 a) ∧ z53_44 a_9 a a_1 a_3 ∧ z53_50 a a_1 a_3 a_9 <
 z53_50 a a_1 a_3 a_5 else ∃ (a_7 : LvI), (z53_1 a ∧ z53_2 a ∧ a.gate = a.gate ∧ z53_29 a a_7 a_5 ∧ z53_30 a a_7 a_5 ∧ z53_31 a_7 a_5 ∧ z53_0 ∧ z53_18 ∧ z53_118 a_7 a_5 ∧ z53_12 a) ∧ z53_26 a_7 a a_1 ∧ z53_36 a a_1 a_7 <
 z53_36 a a_1 a_3) ∧ ∀ (a_5 : LvI), z53_43 a_5 a a_1 a_3 → bif z53_45 a_5 then ((z53_46 a_5 a ∧ bif gD a.grp a_5.s then ∃ (a_7 : LvI), z53_119 a a_7 a_5 ∧ z53_126 a_7 a a_1 a_3 a_5 else ∃ (a_7 : LvI), z53_127 a a_7 a_5 ∧
 z53_126 a_7 a a_1 a_3 a_5) ∧ ∀ (a_7 : LvI), z53_126 a_7 a a_1 a_3 a_5 → (∃ (a_9 : LvI), z53_128 a a_9 a_7 ∧ z53_133 a_9 a a_1 a_3 a_5) ∧ ∀ (a_9 : LvI), z53_133 a_9 a a_1 a_3 a_5 → bif z53_73 a_9 a then z53_75 a_9 a ∧ bif
 z53_76 a a_9 then z53_81 a a_9 ∧ ∃ (a_11 : LvI), z53_135 a a_11 a_9 ∧ z53_137 a_11 a a_1 a_3 a_5 a_9 else z53_89 a a_9 ∧ ∃ (a_11 : LvI), z53_138 a a_11 a_9 ∧ z53_137 a_11 a a_1 a_3 a_5 a_9 else bif z53_64 a a_9 then
 z53_79 a_9 a ∧ z53_95 a a_9 ∧ z53_100 a a_9 ∧ z53_140 a a_9 ∧ ∃ (a_11 : LvI), z53_143 a a_11 a_9 ∧ z53_144 a_11 a a_1 a_3 a_5 else ∃ (a_11 : LvI), z53_145 a a_11 a_9 ∧ z53_144 a_11 a a_1 a_3 a_5) ∧ z53_146 a a_1 a_3 a_5
 ∧ z53_146 a a_1 a_3 a_5 else ∃ (a_7 : LvI), z53_147 a a_7 a_5 ∧ z53_24 a_7 a a_1 ∧ z53_149 a a_1 a_7 < z53_36 a a_1 a_3 else ∃ (a_5 : Nat), (z53_1 a ∧ z53_2 a ∧ a.gate = a.gate ∧ z53_150 a a_5 ∧ z53_150 a a_5 ∧ z53_151
 a_5 a_3 a) ∧ z53_152 a_5 a a_1) ∧ ∀ (a_3 : LvI), z53_24 a_3 a a_1 → bif z53_28 a_3 a then (∃ (a_5 : LvI), (z53_1 a ∧ z53_2 a ∧ a.gate = a.gate ∧ z53_29 a a_5 a_3 ∧ z53_30 a a_5 a_3 ∧ z53_31 a_5 a_3 ∧ z53_0 ∧ z53_112 a
 a_5 a_3 ∧ z53_32 a_5 a_3 ∧ z53_34 a_5 ∧ z53_114 a a_5 a_3) ∧ z53_156 a_5 a a_1 a_3) ∧ ∀ (a_5 : LvI), z53_156 a_5 a a_1 a_3 → bif z53_45 a_5 then ((z53_46 a_5 a ∧ bif gD a.grp a_5.s then ∃ (a_7 : LvI), z53_119 a a_7 a_5 ∧
 z53_165 a_7 a a_1 a_3 a_5 else ∃ (a_7 : LvI), z53_127 a a_7 a_5 ∧ z53_165 a_7 a a_1 a_3 a_5) ∧ ∀ (a_7 : LvI), z53_165 a_7 a a_1 a_3 a_5 → (∃ (a_9 : LvI), z53_128 a a_9 a_7 ∧ z53_170 a_9 a a_1 a_3 a_5) ∧ ∀ (a_9 : LvI),
 z53_170 a_9 a a_1 a_3 a_5 → bif z53_73 a_9 a then z53_75 a_9 a ∧ bif z53_76 a a_9 then z53_81 a a_9 ∧ ∃ (a_11 : LvI), z53_135 a a_11 a_9 ∧ z53_172 a_11 a a_1 a_3 a_5 a_9 else z53_89 a a_9 ∧ ∃ (a_11 : LvI), z53_138 a a_11
 a_9 ∧ z53_172 a_11 a a_1 a_3 a_5 a_9 else bif z53_64 a a_9 then z53_79 a_9 a ∧ z53_95 a a_9 ∧ z53_100 a a_9 ∧ z53_140 a a_9 ∧ ∃ (a_11 : LvI), z53_143 a a_11 a_9 ∧ z53_173 a_11 a a_1 a_3 a_5 else ∃ (a_11 : LvI), z53_145 a
 a_11 a_9 ∧ z53_173 a_11 a a_1 a_3 a_5) ∧ z53_174 a a_1 a_3 a_5 ∧ z53_174 a a_1 a_3 a_5 else ∃ (a_7 : LvI), z53_147 a a_7 a_5 ∧ z53_24 a_7 a a_1 ∧ z53_149 a a_1 a_7 < z53_149 a a_1 a_3 else ∃ (a_5 : Nat), (z53_1 a ∧ z53_2
 a ∧ a.gate = a.gate ∧ (lvAll a a_5).length = (lvNx a a_3).length ∧ 0 + (lvNx a a_3).length ≤ (lvNx a a_3).length ∧ (∀ (j : Nat), z53_4 j a a_5 → z53_5 a a_5 j = (z53_175 a a_3 j).length ∧ ∀ (i : Nat), z53_6 i a a_5 j →
 z53_7 a a_5 j i = gD (z53_175 a a_3 j) i) ∧ z53_151 a_5 a_3 a) ∧ z53_152 a_5 a a_1 else z53_176 a = (lvAll a a_1).length ∧ ∀ (i : Nat), i < z53_176 a → z53_178 a i = z53_5 a a_1 i ∧ ∀ (i_1 : Nat), i_1 < z53_178 a i → gD
 (z53_177 a i) i_1 = z53_7 a a_1 i i_1) := by kernel_rfl
theorem nx_add (a : LvA) {s k d : Nat} (i j : Nat) (h : lvFi a s (gD (lvAll a s) k) (lvx a s d) a.N.r.length = true) : lvNx a ⟨s, k, d + 1, i⟩ = lvNx a ⟨s, k, d, j⟩ ++ [gD (lvAll a s) k ++ [lvx a s d]] := by
  simp only [lvNx, lvD, lvAdd, h, if_true, List.append_assoc]
theorem nx_not (a : LvA) {s k d : Nat} (i j : Nat) (h : lvFi a s (gD (lvAll a s) k) (lvx a s d) a.N.r.length = false) : lvNx a ⟨s, k, d + 1, i⟩ = lvNx a ⟨s, k, d, j⟩ := by
  simp only [lvNx, lvD, lvAdd, h, List.append_nil, Bool.false_eq_true, if_false]
theorem nx_next (a : LvA) (s k i j : Nat) : lvNx a ⟨s, k + 1, 0, i⟩ = lvNx a ⟨s, k, 3, j⟩ := by
  simp only [lvNx, lvK, lvD, List.append_nil]
theorem nx_all (a : LvA) (s i : Nat) : lvNx a ⟨s, (lvAll a s).length, 0, i⟩ = lvAll a (s + 1) := by simp only [lvNx, lvD, List.append_nil, lvAll]
theorem lvAdd_mem {a : LvA} {s d : Nat} {lv l : List Int} (h : l ∈ lvAdd a s lv d) : l.length = lv.length + 1 := by
  unfold lvAdd at h; split at h
  · simp only [List.mem_singleton] at h; subst h; simp
  · cases h
theorem lvAdd_len (a : LvA) (s d : Nat) (lv : List Int) : (lvAdd a s lv d).length ≤ 1 := by unfold lvAdd; split <;> simp
theorem lvD_mem {a : LvA} {s : Nat} {lv l : List Int} : ∀ {d : Nat}, l ∈ lvD a s lv d → l.length = lv.length + 1
  | 0, h => by cases h
  | d + 1, h => by
    rcases List.mem_append.1 h with h | h
    · exact lvD_mem h
    · exact lvAdd_mem h
theorem lvD_len (a : LvA) (s : Nat) (lv : List Int) : ∀ d : Nat, (lvD a s lv d).length ≤ d
  | 0 => Nat.le_refl _
  | d + 1 => by
    have := lvD_len a s lv d
    have := lvAdd_len a s d lv
    simp only [lvD, List.length_append]; omega
theorem lvK_mem {a : LvA} {s : Nat} {all : List (List Int)} (ha : ∀ l ∈ all, l.length = s) {l : List Int} : ∀ {k : Nat}, k ≤ all.length → l ∈ lvK a s all k → l.length = s + 1
  | 0, _, h => by cases h
  | k + 1, hk, h => by
    rcases List.mem_append.1 h with h | h
    · exact lvK_mem ha (by omega) h
    · rw [lvD_mem h, ha _ (gD_mem (by omega))]
theorem lvK_len (a : LvA) (s : Nat) (all : List (List Int)) : ∀ k : Nat, (lvK a s all k).length ≤ 3 * k
  | 0 => Nat.le_refl _
  | k + 1 => by
    have := lvK_len a s all k
    have := lvD_len a s (gD all k) 3
    simp only [lvK, List.length_append]; omega
theorem lvAll_mem (a : LvA) : ∀ (s : Nat) (l : List Int), l ∈ lvAll a s → l.length = s
  | 0, l, h => by
    simp only [lvAll, List.mem_singleton] at h; subst h; rfl
  | s + 1, l, h => lvK_mem (lvAll_mem a s) (Nat.le_refl _) h
theorem lvAll_len (a : LvA) : ∀ s : Nat, (lvAll a s).length ≤ 3 ^ s
  | 0 => Nat.le_refl _
  | s + 1 => by
    have h1 := lvAll_len a s
    have h2 := lvK_len a s (lvAll a s) (lvAll a s).length
    simp only [lvAll]
    rw [Nat.pow_succ]; omega
theorem lvAll_bd (a : LvA) {s : Nat} (h : s ≤ 8) : (lvAll a s).length ≤ 6561 := by
  have h1 := lvAll_len a s
  have h2 : 3 ^ s ≤ 3 ^ 8 := Nat.pow_le_pow_right (by omega) h
  have : (3 : Nat) ^ 8 = 6561 := by decide
  omega
theorem lvNx_len (a : LvA) (x : LvI) : (lvNx a x).length ≤ 3 * x.k + x.d := by
  have h1 := lvK_len a x.s (lvAll a x.s) x.k
  have h2 := lvD_len a x.s (gD (lvAll a x.s) x.k) x.d
  simp only [lvNx, List.length_append]; omega
theorem lv_len (a : LvA) {s k : Nat} (h : k < (lvAll a s).length) : (gD (lvAll a s) k).length = s := lvAll_mem a s _ (gD_mem h)
theorem lv_zero (a : LvA) (hg : -1 ≤ a.gate ∧ a.gate ≤ 1) : ∀ s : Nat, List.replicate s 0 ∈ lvAll a s
  | 0 => by simp [lvAll]
  | s + 1 => by
    have ih := lv_zero a hg s
    obtain ⟨d, hd, hx⟩ : ∃ d : Nat, d < 3 ∧ lvx a s d = 0 := by
      by_cases h : gD a.grp s = true
      · refine ⟨(1 - a.gate).toNat, by omega, ?_⟩
        unfold lvx; rw [h]
        have : wr (a.gate + (((1 - a.gate).toNat : Int) - 1)) = a.gate + (((1 - a.gate).toNat : Int) - 1) := w64 (by omega) (by omega)
        show wr _ = 0
        rw [this]; omega
      · refine ⟨1, by omega, ?_⟩
        unfold lvx
        rw [show gD a.grp s = false by simpa using h]; rfl
    have hB : ∀ r, lvB s (List.replicate s 0) 0 r = true := fun r => by
      unfold lvB
      have : ∀ q : Nat, gD (List.replicate s (0 : Int)) q = 0 := fun q => by rw [gD_replicate]; split <;> rfl
      rw [this]
      have : inM (wr (0 - 0)) (-1) 1 = true := by decide
      rw [this, Bool.or_true]
    have hF : ∀ n, lvFi a s (List.replicate s 0) 0 n = true := fun n => by
      induction n with
      | zero => rfl
      | succ n ih => simp only [lvFi, ih, hB, Bool.and_self]
    obtain ⟨k, hk, he⟩ := List.getElem_of_mem ih
    have hgk : gD (lvAll a s) k = List.replicate s 0 := by rw [← he]; simp [gD, List.getElem?_eq_getElem hk]
    have m1 : List.replicate (s + 1) (0 : Int) ∈ lvAdd a s (List.replicate s 0) d := by
      unfold lvAdd; rw [hx, hF, if_pos rfl, List.mem_singleton, List.replicate_succ']
    have m2 : ∀ n, d < n → List.replicate (s + 1) (0 : Int) ∈ lvD a s (List.replicate s 0) n := fun n => by
      induction n with
      | zero => intro h; omega
      | succ n ih =>
        intro h
        simp only [lvD, List.mem_append]
        by_cases h' : d = n
        · subst h'; exact .inr m1
        · exact .inl (ih (by omega))
    have m3 : ∀ n, k < n → List.replicate (s + 1) (0 : Int) ∈ lvK a s (lvAll a s) n := fun n => by
      induction n with
      | zero => intro h; omega
      | succ n ih =>
        intro h
        simp only [lvK, List.mem_append]
        by_cases h' : k = n
        · subst h'; rw [hgk]; exact .inr (m2 3 hd)
        · exact .inl (ih (by omega))
    exact m3 _ hk
theorem fi_hi (a : LvA) {s : Nat} {lv : List Int} {x : Int} {i : Nat} (h : (gD a.N.r i).fr > (gD a.N.r i).to) : lvFi a s lv x (i + 1) = bif lvFi a s lv x i then bif (gD a.N.r i).fr != (s : Int) then true else !!inM (wr (x - gD lv (gD a.N.r i).to.toNat)) (-1) 1 else false := by
  simp only [lvFi, lvB, decide_eq_true h, cond_true]
  cases lvFi a s lv x i <;> cases ((gD a.N.r i).fr != (s : Int)) <;> simp
theorem fi_lo (a : LvA) {s : Nat} {lv : List Int} {x : Int} {i : Nat} (h : ¬ (gD a.N.r i).fr > (gD a.N.r i).to) : lvFi a s lv x (i + 1) = bif lvFi a s lv x i then bif (gD a.N.r i).to != (s : Int) then true else !!inM (wr (x - gD lv (gD a.N.r i).fr.toNat)) (-1) 1 else false := by
  simp only [lvFi, lvB, decide_eq_false h, cond_false]
  cases lvFi a s lv x i <;> cases ((gD a.N.r i).to != (s : Int)) <;> simp
theorem p53 (a : LvA) (h1 : checkL a.N = 0) (h2 : a.grp.length = a.N.g.length) (h3 : -1 ≤ a.gate ∧ a.gate ≤ 1) : V53 a := by
  rw [vc53]; delta z53_0 z53_1 z53_2 z53_3 z53_4 z53_5 z53_6 z53_7 z53_8 z53_9 z53_10 z53_11 z53_12 z53_13 z53_14 z53_15 z53_16 z53_17 z53_18 z53_19 z53_20 z53_21 z53_22 z53_23 z53_24 z53_25 z53_26 z53_27 z53_28 z53_29 z53_30 z53_31 z53_32 z53_33 z53_34 z53_35 z53_36 z53_37 z53_38 z53_39 z53_40 z53_41 z53_42 z53_43 z53_44 z53_45 z53_46 z53_47 z53_48 z53_49 z53_50 z53_51 z53_52 z53_53 z53_54 z53_55 z53_56 z53_57 z53_58 z53_59 z53_60 z53_61 z53_62 z53_63 z53_64 z53_65 z53_66 z53_67 z53_68 z53_69 z53_70 z53_71 z53_72 z53_73 z53_74 z53_75 z53_76 z53_77 z53_78 z53_79 z53_80 z53_81 z53_82 z53_83 z53_84 z53_85 z53_86 z53_87 z53_88 z53_89 z53_90 z53_91 z53_92 z53_93 z53_94 z53_95 z53_96 z53_97 z53_98 z53_99 z53_100 z53_101 z53_102 z53_103 z53_104 z53_105 z53_106 z53_107 z53_108 z53_109 z53_110 z53_111 z53_112 z53_113 z53_114 z53_115 z53_116 z53_117 z53_118 z53_119 z53_120 z53_121 z53_122 z53_123 z53_124 z53_125 z53_126 z53_127 z53_128 z53_129 z53_130 z53_131 z53_132 z53_133 z53_134 z53_135 z53_136 z53_137 z53_138 z53_139 z53_140 z53_141 z53_142 z53_143 z53_144 z53_145 z53_146 z53_147 z53_148 z53_149 z53_150 z53_151 z53_152 z53_153 z53_154 z53_155 z53_156 z53_157 z53_158 z53_159 z53_160 z53_161 z53_162 z53_163 z53_164 z53_165 z53_166 z53_167 z53_168 z53_169 z53_170 z53_171 z53_172 z53_173 z53_174 z53_175 z53_176 z53_177 z53_178; simp only [condP, eq_self, implies_true, and_self, true_and, and_true, true_implies, forall_const, decide_eq_true_eq, decide_eq_false_iff_not, Int.toNat_natCast, dSpan_eSpan, dReach_eReach, dWay_eWay, dStep_eStep, dFar_eFar, dInt_eInt, Nat.zero_add, Int.zero_sub, Nat.le_eq, Nat.succ_eq_add_one, Nat.add_one_le_iff, Bool.not_eq_true', Bool.not_eq_false', rng_length, dSpan_mk, dReach_mk, dWay_mk, dStep_mk, dFar_mk, rng_getD]
  simp only [lvS7n, lvS7o, lvS10n, lvS10o, lvS15n, lvS15o, lvS17n, lvS17o, lvS11n, lvS11o, lvS11w, List.cons_append, List.nil_append, List.append_nil, List.getD_cons_zero, List.getD_cons_succ, List.headD_cons]
  have hg := good_of h1
  have hg8 := hg.g8
  have hr14 := hg.r14
  have B3 : ∀ s, s < a.N.g.length → (lvAll a s).length ≤ 6561 := fun s hs => lvAll_bd a (by omega)
  have W : ∀ s : Nat, ∀ i, i < (lvAll a s).length → (gD (lvAll a s) i).length = (gD (lvAll a s) i).length ∧ ∀ j, j < (gD (lvAll a s) i).length → gD (gD (lvAll a s) i) j = gD (gD (lvAll a s) i) j := fun _ _ _ => ⟨rfl, fun _ _ => rfl⟩
  refine ⟨⟨0, ⟨rfl, by decide, fun j hj => ⟨?r1, fun i hi => ?r2⟩, rfl⟩, Nat.zero_le _⟩, fun s hs => ⟨fun hlt => ⟨⟨⟨s, 0, 0, 0⟩, ⟨rfl, W s, rfl, rfl⟩, ⟨by simp only; omega, rfl, Nat.zero_le _, rfl⟩, rfl⟩, fun y hy => ⟨fun hk => ⟨⟨⟨y.s, y.k, 0, 0⟩, ⟨rfl, W y.s, rfl, rfl, rfl⟩, ⟨?r3, ?r4⟩⟩, ?n10, ?o10⟩, ?e7n⟩, fun y hy => ⟨fun hk => ⟨?w7o, ?o10b⟩, ?e7o⟩⟩, ?fin⟩⟩
  case fin =>
    intro hge
    have : s = a.N.g.length := by omega
    subst this
    exact ⟨rfl, W _⟩
  case e7n =>
    intro hge
    exfalso
    obtain ⟨⟨q1, q2, q3, q4⟩, q5⟩ := hy
    obtain ⟨ys, yk, yd, yi⟩ := y
    simp only at q1 q2 q3 q4 hge
    have hk : yk = (lvAll a ys).length := by omega
    subst hk q4
    rw [nx_all] at q5
    have := lv_zero a h3 (ys + 1)
    rw [q5] at this; cases this
  case e7o =>
    intro hge
    obtain ⟨q1, q2, q3, q4⟩ := hy
    obtain ⟨ys, yk, yd, yi⟩ := y
    simp only at q1 q2 q3 q4 hge ⊢
    have hk : yk = (lvAll a ys).length := by omega
    subst hk q4
    rw [nx_all]
    exact ⟨ys + 1, ⟨rfl, Nat.le_refl _, W _, (wsucc (by omega)).symm⟩, by omega, by omega⟩
  case n10 =>
    intro z ⟨⟨q1, q2, q3, q4, q5⟩, q6⟩
    have b3 := B3 z.s q1
    refine ⟨fun hd => ⟨⟨⟨⟨by omega, by omega⟩, fun hb => ⟨⟨z.s, z.k, z.d, 0⟩, ⟨rfl, W z.s, rfl, rfl, rfl, ?x1⟩, ⟨q1, q2, q3, q4, by simp only; omega, rfl, Nat.zero_le _⟩, q6⟩, fun hb => ⟨⟨z.s, z.k, z.d, 0⟩, ⟨rfl, W z.s, rfl, rfl, rfl, ?x2⟩, ⟨q1, q2, q3, q4, by simp only; omega, rfl, Nat.zero_le _⟩, q6⟩⟩, fun u ⟨⟨u1, u2, u3, u4, u5, u6, _⟩, u8⟩ => ⟨⟨⟨u.s, u.k, u.d, 0⟩, ⟨rfl, W u.s, rfl, rfl, rfl, rfl, rfl, rfl⟩, ⟨u1, u2, u3, u4, u5, u6, Nat.zero_le _⟩, u8⟩, fun v ⟨⟨v1, v2, v3, v4, v5, v6, v7⟩, v8⟩ => ⟨fun hi => ?st17, fun hi => ?ex17⟩⟩⟩, ?c11w, ?c11n⟩, fun hd => ?e10⟩
    case x1 => show lvx a z.s z.d = _; unfold lvx; rw [hb]; rfl
    case x2 => show lvx a z.s z.d = _; unfold lvx; rw [hb]; rfl
    case st17 =>
      have ll := lv_len a v3
      obtain ⟨_, b1, b2, b3⟩ := hg.r v.i (by omega)
      refine ⟨⟨by omega, by omega⟩, fun hgt => ⟨⟨fun _ => ⟨by omega, by omega⟩, fun hc => ?_⟩, ⟨⟨v.s, v.k, v.d, v.i + 1⟩, ⟨rfl, W v.s, rfl, rfl, rfl, rfl, fi_hi a hgt, (wsucc (by omega)).symm⟩, ⟨⟨v1, v2, v3, v4, v5, v6, by simp only; omega⟩, v8⟩, by simp only; omega⟩⟩, fun hgt => ⟨⟨fun _ => ⟨by omega, by omega⟩, fun hc => ?_⟩, ⟨⟨v.s, v.k, v.d, v.i + 1⟩, ⟨rfl, W v.s, rfl, rfl, rfl, rfl, fi_lo a hgt, (wsucc (by omega)).symm⟩, ⟨⟨v1, v2, v3, v4, v5, v6, by simp only; omega⟩, v8⟩, by simp only; omega⟩⟩⟩
      · have hc : (gD a.N.r v.i).fr = v.s := by simp at hc; exact hc.2
        rw [ll]; omega
      · have hc : (gD a.N.r v.i).to = v.s := by simp at hc; exact hc.2
        rw [ll]; omega
    case ex17 =>
      obtain ⟨vs, vk, vd, vi⟩ := v
      simp only at v1 v2 v3 v4 v5 v6 v7 hi v8 ⊢
      have hi' : vi = a.N.r.length := by omega
      subst hi'
      have ll := lv_len a v3
      have b4 := B3 vs v1
      refine ⟨fun hf => ⟨⟨by omega, by omega⟩, ⟨fun h => absurd h (by decide), by omega, by omega⟩, ⟨by omega, fun h => absurd h (by decide), by omega, by omega⟩, ⟨fun h => absurd h (by decide), by decide, by decide, by decide, by decide⟩, ⟨⟨vs, vk, vd + 1, 0⟩, ?_⟩⟩, fun hf => ⟨⟨vs, vk, vd + 1, 0⟩, ⟨rfl, W vs, rfl, rfl, by simp only; omega⟩, ⟨⟨v1, v2, v3, v4, by simp only; omega⟩, by simp only; omega⟩, by rw [nx_not a 0 a.N.r.length hf, v8]⟩⟩
      have en := nx_add a 0 a.N.r.length hf
      rw [v8, List.nil_append] at en
      refine ⟨⟨rfl, W vs, rfl, by rw [en]; rfl, rfl, by simp only; omega, by rw [en]; rfl, fun i hi => ?_⟩, ⟨v1, v2, v3, v4, by simp only; omega⟩, by simp only; omega⟩
      rw [en] at hi ⊢
      have hi0 : i = 0 := by simpa using hi
      subst hi0
      show (gD (lvAll a vs) vk ++ [lvx a vs vd]).length = _ ∧ ∀ j, j < (gD (lvAll a vs) vk ++ [lvx a vs vd]).length → gD (gD (lvAll a vs) vk ++ [lvx a vs vd]) j = _
      refine ⟨by simp, fun j hj => ?_⟩
      rw [gD_append, Nat.sub_zero]
      by_cases h : j < (gD (lvAll a vs) vk).length
      · rw [if_pos h, decide_eq_true h]; rfl
      · have : j - (gD (lvAll a vs) vk).length = 0 := by simp at hj; omega
        rw [if_neg h, decide_eq_false h, this]; rfl
    case c11w =>
      intro u ⟨⟨u1, u2, u3, u4, u5⟩, u6⟩
      exact ⟨u, ⟨rfl, W u.s, rfl, rfl, rfl, by rw [w64 (by omega) (by omega)]; omega, rfl, fun _ _ => ⟨rfl, fun _ _ => rfl⟩⟩, ⟨u1, u2, u3, u4, u5⟩, by omega⟩
    case c11n =>
      intro u ⟨⟨⟨u1, u2, u3, u4, u5⟩, u6⟩, u7⟩
      exact ⟨u, ⟨rfl, W u.s, rfl, rfl, by rw [w64 (by omega) (by omega)]; omega⟩, ⟨⟨u1, u2, u3, u4, u5⟩, u7⟩, by omega⟩
    case e10 =>
      obtain ⟨zs, zk, zd, zi⟩ := z
      simp only at q1 q2 q3 q4 q5 q6 hd b3 ⊢
      have : zd = 3 := by omega
      subst this
      exact ⟨⟨zs, zk + 1, 0, 0⟩, ⟨rfl, W zs, rfl, (wsucc (by omega)).symm⟩, ⟨⟨q1, q2, by simp only; omega, rfl⟩, by rw [nx_next a zs zk 0 zi]; exact q6⟩, by simp only; omega⟩
  case r1 => exact lv_len a hj
  case r2 => rw [lv_len a hj] at hi; exact absurd hi (Nat.not_lt_zero _)
  case r3 =>
    obtain ⟨⟨q1, q2, q3, q4⟩, q5⟩ := hy
    exact ⟨q1, q2, by simp only; omega, rfl, by simp only; omega⟩
  case r4 =>
    obtain ⟨⟨q1, q2, q3, q4⟩, q5⟩ := hy
    obtain ⟨ys, yk, yd, yi⟩ := y
    simp only at q4
    subst q4; exact q5
  case w7o =>
    obtain ⟨q1, q2, q3, q4⟩ := hy
    obtain ⟨ys, yk, yd, yi⟩ := y
    simp only at q1 q2 q3 q4 hk ⊢
    subst q4
    exact ⟨⟨ys, yk, 0, 0⟩, ⟨rfl, W ys, rfl, rfl, rfl, rfl, rfl, fun _ _ => ⟨rfl, fun _ _ => rfl⟩⟩, q1, q2, by simp only; omega, rfl, by simp only; omega⟩
  all_goals
    intro z ⟨q1, q2, q3, q4, q5⟩
    have b3 := B3 z.s q1
    refine ⟨fun hd => ⟨⟨⟨⟨by omega, by omega⟩, fun hb => ⟨⟨z.s, z.k, z.d, 0⟩, ⟨rfl, W z.s, rfl, rfl, rfl, rfl, ?x1, rfl, fun _ _ => ⟨rfl, fun _ _ => rfl⟩⟩, ⟨q1, q2, q3, q4, by simp only; omega, rfl, Nat.zero_le _⟩⟩, fun hb => ⟨⟨z.s, z.k, z.d, 0⟩, ⟨rfl, W z.s, rfl, rfl, rfl, rfl, ?x2, rfl, fun _ _ => ⟨rfl, fun _ _ => rfl⟩⟩, ⟨q1, q2, q3, q4, by simp only; omega, rfl, Nat.zero_le _⟩⟩⟩, fun u ⟨u1, u2, u3, u4, u5, u6, _⟩ => ⟨⟨⟨u.s, u.k, u.d, 0⟩, ⟨rfl, W u.s, rfl, rfl, rfl, rfl, rfl, rfl, rfl, rfl, fun _ _ => ⟨rfl, fun _ _ => rfl⟩⟩, ⟨u1, u2, u3, u4, u5, u6, Nat.zero_le _⟩⟩, fun v ⟨v1, v2, v3, v4, v5, v6, v7⟩ => ⟨fun hi => ?st17, fun hi => ?ex17⟩⟩⟩, ?c11w⟩, fun hd => ?e10⟩
    case x1 => show lvx a z.s z.d = _; unfold lvx; rw [hb]; rfl
    case x2 => show lvx a z.s z.d = _; unfold lvx; rw [hb]; rfl
    case st17 =>
      have ll := lv_len a v3
      obtain ⟨_, b1, b2, b3⟩ := hg.r v.i (by omega)
      refine ⟨⟨by omega, by omega⟩, fun hgt => ⟨⟨fun _ => ⟨by omega, by omega⟩, fun hc => ?_⟩, ⟨⟨v.s, v.k, v.d, v.i + 1⟩, ⟨rfl, W v.s, rfl, rfl, rfl, rfl, rfl, fi_hi a hgt, (wsucc (by omega)).symm, rfl, fun _ _ => ⟨rfl, fun _ _ => rfl⟩⟩, ⟨v1, v2, v3, v4, v5, v6, by simp only; omega⟩, by simp only; omega⟩⟩, fun hgt => ⟨⟨fun _ => ⟨by omega, by omega⟩, fun hc => ?_⟩, ⟨⟨v.s, v.k, v.d, v.i + 1⟩, ⟨rfl, W v.s, rfl, rfl, rfl, rfl, rfl, fi_lo a hgt, (wsucc (by omega)).symm, rfl, fun _ _ => ⟨rfl, fun _ _ => rfl⟩⟩, ⟨v1, v2, v3, v4, v5, v6, by simp only; omega⟩, by simp only; omega⟩⟩⟩
      · have hc : (gD a.N.r v.i).fr = v.s := by simp at hc; exact hc.2
        rw [ll]; omega
      · have hc : (gD a.N.r v.i).to = v.s := by simp at hc; exact hc.2
        rw [ll]; omega
    case ex17 =>
      obtain ⟨vs, vk, vd, vi⟩ := v
      simp only at v1 v2 v3 v4 v5 v6 v7 hi ⊢
      have hi' : vi = a.N.r.length := by omega
      subst hi'
      have ll := lv_len a v3
      have b4 := B3 vs v1
      have b5 := lvNx_len a ⟨vs, vk, vd, a.N.r.length⟩
      simp only at b5
      refine ⟨fun hf => ⟨⟨by omega, by omega⟩, ⟨fun h => absurd h (by decide), by omega, by omega⟩, ⟨by omega, fun h => absurd h (by decide), by omega, by omega⟩, ⟨by omega, fun h => absurd h (by decide), by omega, by omega⟩, ⟨⟨vs, vk, vd + 1, 0⟩, ?_⟩⟩, fun hf => ⟨⟨vs, vk, vd + 1, 0⟩, ?_⟩⟩
      · have en := nx_add a 0 a.N.r.length hf
        have el : (lvNx a ⟨vs, vk, vd + 1, 0⟩).length = (lvNx a ⟨vs, vk, vd, a.N.r.length⟩).length + 1 := by rw [en]; simp
        refine ⟨⟨rfl, W vs, rfl, el, rfl, by simp only; omega, el, fun i hi => ?_⟩, ⟨v1, v2, v3, v4, by simp only; omega⟩, by simp only; omega⟩
        rw [el] at hi
        rw [en, gD_append]
        by_cases h0 : i < (lvNx a ⟨vs, vk, vd, a.N.r.length⟩).length
        · simp only [if_pos h0, decide_eq_true h0, cond_true]; exact ⟨trivial, fun _ _ => trivial⟩
        · have e0 : i - (lvNx a ⟨vs, vk, vd, a.N.r.length⟩).length = 0 := by omega
          simp only [if_neg h0, decide_eq_false h0, cond_false, e0]
          show (gD (lvAll a vs) vk ++ [lvx a vs vd]).length = _ ∧ ∀ j, j < (gD (lvAll a vs) vk ++ [lvx a vs vd]).length → gD (gD (lvAll a vs) vk ++ [lvx a vs vd]) j = _
          refine ⟨by simp, fun j hj => ?_⟩
          rw [gD_append, Nat.sub_zero]
          by_cases h : j < (gD (lvAll a vs) vk).length
          · rw [if_pos h, decide_eq_true h]; rfl
          · have : j - (gD (lvAll a vs) vk).length = 0 := by simp at hj; omega
            rw [if_neg h, decide_eq_false h, this]; rfl
      · have en := nx_not a 0 a.N.r.length hf
        refine ⟨⟨rfl, W vs, rfl, by rw [en], rfl, by simp only; omega, by rw [en], fun i hi => ?_⟩, ⟨v1, v2, v3, v4, by simp only; omega⟩, by simp only; omega⟩
        rw [en]; exact ⟨rfl, fun _ _ => rfl⟩
    case c11w =>
      intro u ⟨⟨u1, u2, u3, u4, u5⟩, u6⟩
      exact ⟨u, ⟨rfl, W u.s, rfl, rfl, rfl, by rw [w64 (by omega) (by omega)]; omega, rfl, fun _ _ => ⟨rfl, fun _ _ => rfl⟩⟩, ⟨u1, u2, u3, u4, u5⟩, by omega⟩
    case e10 =>
      obtain ⟨zs, zk, zd, zi⟩ := z
      simp only at q1 q2 q3 q4 q5 hd b3 ⊢
      have : zd = 3 := by omega
      subst this
      have en := nx_next a zs zk 0 zi
      refine ⟨⟨zs, zk + 1, 0, 0⟩, ⟨rfl, W zs, rfl, by rw [en], (wsucc (by omega)).symm, by rw [en], fun i hi => ?_⟩, ⟨q1, q2, by simp only; omega, rfl⟩, by simp only; omega⟩
      rw [en]; exact ⟨rfl, fun _ _ => rfl⟩
def d53 : List AVal → Heap → Option (LvA × List (Nat × Nat) × List Nat)
  | [x, g, .d (.v (.int _ q))], H => match dNet x H, dBools g H with
    | some (N, f1), some (grp, f2) => some (⟨N, grp, q⟩, [], f1 ++ f2)
    | _, _ => none
  | _, _ => none
theorem ok53 : SpecOk Try.prog 53 (C53.spec d53) := okC C53 A53 [] [] Try.func53 (fun _ => by kernel_rfl) (fun _ => gok_cons ok60 gok_nil) (fun a h => p53 a h.1 h.2.1 h.2.2) (fun _ => noI rfl rfl) _
end Go.Bal
