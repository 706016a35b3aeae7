/- The reference: all levels, and what levels prove. -/
import Derived.Test.YtonddbmhljelgaaBalT20
set_option linter.unusedVariables false
set_option linter.unusedSimpArgs false
namespace Go.Bal
open Go Go.Sym Go.Proofs
def HK (l : List Bool) : DVal := Up 1 l.length λ i => .v (.bool (gD l i))
def eLL (l : List (List Int)) : DVal := Up 1 l.length λ i => AW (gD l i)
def ABV (l : List (List Int)) : HCell := .live (.row 1 l.length λ i => AW (gD l i))
def Vg (a : AVal) (H : Heap) : Option (List Bool × List Nat) := match Za a H with
 | some (n, g, f) => some (AD n λ i => Tu (g i), f)
 | none => none
structure LvA where
 N : NetL
 grp : List Bool
 gate : Int
structure LvI where
 s : Nat
 k : Nat
 d : Nat
 i : Nat
 deriving Inhabited
def ND (a : LvA) (s d : Nat) : Int := bif gD a.grp s then wr (a.gate + ((d : Int) - 1)) else (d : Int) - 1
def lvB (s : Nat) (lv : List Int) (x : Int) (r : Reach) : Bool := (bif decide (r.fr > r.to) then r.fr else r.to) != (s : Int) || inM (wr (x - gD lv (bif decide (r.fr > r.to) then r.to else r.fr).toNat)) (-1) 1
def NR (a : LvA) (s : Nat) (lv : List Int) (x : Int) : Nat -> Bool
 | 0 => true
 | i + 1 => NR a s lv x i && lvB s lv x (gD a.N.r i)
def QY (a : LvA) (s : Nat) (lv : List Int) (d : Nat) : List (List Int) := if NR a s lv (ND a s d) a.N.r.length then [lv ++ [ND a s d]] else []
def Mr (a : LvA) (s : Nat) (lv : List Int) : Nat -> List (List Int)
 | 0 => []
 | d + 1 => Mr a s lv d ++ QY a s lv d
def To (a : LvA) (s : Nat) (all : List (List Int)) : Nat -> List (List Int)
 | 0 => []
 | k + 1 => To a s all k ++ Mr a s (gD all k) 3
def AR (a : LvA) : Nat -> List (List Int)
 | 0 => [[]]
 | s + 1 => To a s (AR a s) (AR a s).length
def FX (a : LvA) (x : LvI) : List (List Int) := To a x.s (AR a x.s) x.k ++ Mr a x.s (gD (AR a x.s) x.k) x.d
def Wc (a : LvA) (s : Nat) : List (Nat × AVal) := [(1, .d (HK a.grp)), (2, .int a.gate), (3, .bptr 203 0), (7, .d (eLL (AR a s))), (8, .int s)]
def Ed (a : LvA) (x : LvI) (nx : AVal) : List (Nat × AVal) := Wc a x.s ++ [(9, nx), (10, .int x.k), (11, .int ((x.d : Int) - 1))]
def Vk (a : LvA) (x : LvI) (nx : AVal) : List (Nat × AVal) := Ed a x nx ++ [(12, .int (ND a x.s x.d)), (13, .bool (NR a x.s (gD (AR a x.s) x.k) (ND a x.s x.d) x.i)), (14, .int x.i)]
def LC : AVal := .d LT
def Kd (a : LvA) (x : LvI) : AVal := .own 204 1 0 (FX a x).length
def lvH (a : LvA) : List (Nat × HCell) := [(203, EZ a.N)]
def Xo (a : LvA) (x : LvI) : List (Nat × HCell) := [(203, EZ a.N), (204, ABV (FX a x))]
def lvI3 (a : LvA) (s : Nat) : Prop := s <= a.N.g.length
def lvI7 (a : LvA) (gs : List Nat) (x : LvI) : Prop := x.s < a.N.g.length /\ a.N.g.length - x.s = gs.headD 0 /\ x.k <= (AR a x.s).length /\ x.d = 0
def Vw (a : LvA) (m7 m3 : Nat) (x : LvI) : Prop := x.s < a.N.g.length /\ a.N.g.length - x.s = m3 /\ x.k < (AR a x.s).length /\ (AR a x.s).length - x.k = m7 /\ x.d <= 3
def Qy (a : LvA) (m10 m7 m3 : Nat) (x : LvI) : Prop := x.s < a.N.g.length /\ a.N.g.length - x.s = m3 /\ x.k < (AR a x.s).length /\ (AR a x.s).length - x.k = m7 /\ x.d < 3 /\ 3 - x.d = m10 /\ x.i <= a.N.r.length
def Tv (a : LvA) (m3 : Nat) : Shape := { α := LvI, dflt := default, T := λ x => ⟨Wc a x.s ++ [(9, LC), (10, .int x.k)], lvH a⟩, inv := λ x => lvI7 a [m3] x /\ FX a x = [], meas := λ x => (AR a x.s).length - x.k, tag := [0] }
def Wp (a : LvA) (m3 : Nat) : Shape := { α := LvI, dflt := default, T := λ x => ⟨Wc a x.s ++ [(9, Kd a x), (10, .int x.k)], Xo a x⟩, inv := λ x => lvI7 a [m3] x, meas := λ x => (AR a x.s).length - x.k, tag := [1] }
def Pc (a : LvA) (m7 m3 : Nat) : Shape := { α := LvI, dflt := default, T := λ x => ⟨Ed a x LC, lvH a⟩, inv := λ x => Vw a m7 m3 x /\ FX a x = [], meas := λ x => 3 - x.d, tag := [0] }
def Cl (a : LvA) (m7 m3 : Nat) : Shape := { α := LvI, dflt := default, T := λ x => ⟨Ed a x (Kd a x), Xo a x⟩, inv := λ x => Vw a m7 m3 x, meas := λ x => 3 - x.d, tag := [1] }
def Oq (a : LvA) (m10 m7 m3 : Nat) : Shape := { α := LvI, dflt := default, T := λ x => ⟨Ed a x LC ++ [(12, .int (ND a x.s x.d))], lvH a⟩, inv := λ x => Qy a m10 m7 m3 x /\ FX a x = [], meas := λ _ => 0 }
def Jr (a : LvA) (m10 m7 m3 : Nat) : Shape := { α := LvI, dflt := default, T := λ x => ⟨Ed a x (Kd a x) ++ [(12, .int (ND a x.s x.d))], Xo a x⟩, inv := λ x => Qy a m10 m7 m3 x, meas := λ _ => 0 }
def Oe (a : LvA) (m10 m7 m3 : Nat) : Shape := { α := LvI, dflt := default, T := λ x => ⟨Vk a x LC, lvH a⟩, inv := λ x => Qy a m10 m7 m3 x /\ FX a x = [], meas := λ x => a.N.r.length - x.i }
def Js (a : LvA) (m10 m7 m3 : Nat) : Shape := { α := LvI, dflt := default, T := λ x => ⟨Vk a x (Kd a x), Xo a x⟩, inv := λ x => Qy a m10 m7 m3 x, meas := λ x => a.N.r.length - x.i }
def Uy (a : LvA) (x : LvI) (nx : AVal) : List (Nat × AVal) := Wc a x.s ++ [(9, nx), (10, .int x.k), (11, .int ((x.d : Int) - 1 - 1))]
def AAF (a : LvA) (m10 m7 m3 : Nat) (x : LvI) : Prop := Vw a m7 m3 x /\ 3 - x.d + 1 = m10
def Ve (a : LvA) (m10 m7 m3 : Nat) : Shape := { α := LvI, dflt := default, T := λ x => ⟨Uy a x LC, lvH a⟩, inv := λ x => AAF a m10 m7 m3 x /\ FX a x = [], meas := λ _ => 0 }
def Ob (a : LvA) (m10 m7 m3 : Nat) : Shape := { α := LvI, dflt := default, T := λ x => ⟨Uy a x (Kd a x), Xo a x⟩, inv := λ x => AAF a m10 m7 m3 x, meas := λ _ => 0 }
def Ou (a : LvA) (m10 m7 m3 : Nat) : Shape := { Ob a m10 m7 m3 with first := [(204, 25176)] }
def A53 (a : LvA) : Ann := { ann 102 [(60, s60)] with md := λ id => if id = 1 then some (λ k => if k = 0 then 2 else 1) else if id = 24 then some (λ k => if k = 9 then 0 else 1) else none, loops := λ id => if id = 3 then some [{ α := Nat, dflt := 0, T := λ s => ⟨Wc a s, lvH a⟩, inv := λ s => lvI3 a s, meas := λ s => a.N.g.length - s, first := [(203, 1000)], ffz := [2016], afz := [204] }] else none, inner := λ gs id => if id = 7 then some [Tv a (gs.getD 0 0), Wp a (gs.getD 0 0)] else if id = 10 then if gs.getD 1 0 = 1 then some [Cl a (gs.getD 0 0) (gs.getD 2 0)] else some [Pc a (gs.getD 0 0) (gs.getD 2 0), Cl a (gs.getD 0 0) (gs.getD 2 0)] else if id = 17 then if gs.getD 1 0 = 1 then some [Js a (gs.getD 0 0) (gs.getD 2 0) (gs.getD 4 0)] else some [Oe a (gs.getD 0 0) (gs.getD 2 0) (gs.getD 4 0)] else none, cutIn := λ gs id => if id = 15 then if gs.getD 1 0 = 1 then some [Jr a (gs.getD 0 0) (gs.getD 2 0) (gs.getD 4 0)] else some [Oq a (gs.getD 0 0) (gs.getD 2 0) (gs.getD 4 0)] else if id = 11 then if gs.getD 1 0 = 1 then some [Ou a (gs.getD 0 0) (gs.getD 2 0) (gs.getD 4 0), Ob a (gs.getD 0 0) (gs.getD 2 0) (gs.getD 4 0)] else some [Ou a (gs.getD 0 0) (gs.getD 2 0) (gs.getD 4 0), Ve a (gs.getD 0 0) (gs.getD 2 0) (gs.getD 4 0)] else none }
def C53 : Ctr := { α := LvA, xs := λ a => [.d (EI a.N), .d (HK a.grp), .int a.gate], L := λ _ => [], val := λ a => .d (eLL (AR a a.N.g.length)), keep := λ _ => [], pre := λ a => [AC a.N = 0, a.grp.length = a.N.g.length, -1 <= a.gate /\ a.gate <= 1] }
def V53 (a : LvA) : Prop := BC Try.prog (A53 a) Try.f53 (AH Try.f53) (C53.xs a) (AE []) (C53.val a) (C53.keep a) [] []
theorem vc53 (a : LvA) : (V53 a) = (let q := a
 let y0 := 0 = 0
 let y1 := q.grp.length = q.grp.length
 let y2 := ∀ (i : Nat), i < q.grp.length -> gD q.grp i = gD q.grp i
 let y3 := 1 <= 1
 let y4 (j : Nat) (a1 : Nat) := j < (AR q a1).length
 let y5 (a1 : Nat) (j : Nat) := (gD (AR q a1) j).length
 let y6 (i : Nat) (a1 : Nat) (j : Nat) := i < y5 a1 j
 let y7 (a1 : Nat) (j : Nat) (i : Nat) := gD (gD (AR q a1) j) i
 let y8 := q.N.g.length = q.N.g.length
 let y9 := ∀ (i : Nat), i < q.N.g.length -> (gD q.N.g i).lo = (gD q.N.g i).lo /\ (gD q.N.g i).hi = (gD q.N.g i).hi
 let y10 := q.N.r.length = q.N.r.length
 let y11 := ∀ (i : Nat), i < q.N.r.length -> (gD q.N.r i).fr = (gD q.N.r i).fr /\ (gD q.N.r i).to = (gD q.N.r i).to /\ (gD q.N.r i).sp.lo = (gD q.N.r i).sp.lo /\ (gD q.N.r i).sp.hi = (gD q.N.r i).sp.hi
 let y12 := y8 /\ y9 /\ y10 /\ y11
 let y13 (i : Nat) (a1 : LvI) := i < (AR q a1.s).length
 let y14 (a1 : LvI) (i : Nat) : List Int := gD (AR q a1.s) i
 let y15 (a1 : LvI) (i : Nat) := (y14 a1 i).length
 let y16 (i : Nat) (a1 : LvI) (i1 : Nat) := i < y15 a1 i1
 let y17 (a1 : LvI) (i : Nat) (i1 : Nat) := gD (y14 a1 i) i1
 let y18 := ∀ (i : Nat), i < 0 -> false = false
 let y19 (a : LvI) := a.s < q.N.g.length
 let y20 (a1 : LvI) := q.N.g.length - a1.s
 let y21 (a1 : Nat) := q.N.g.length - a1
 let y22 (a1 : Nat) : List Nat := y21 a1 :: ([] ++ [])
 let y23 (a1 : Nat) := (y22 a1).getD 0 0
 let y24 (a : LvI) (a2 : Nat) := y19 a /\ y20 a = [y23 a2].headD 0 /\ a.k <= (AR q a.s).length /\ a.d = 0
 let y25 (a1 : LvI) := FX q a1 = []
 let y26 (a : LvI) (a2 : Nat) := y24 a a2 /\ y25 a
 let y27 (a : LvI) := (↑a.k : Int) < (↑(AR q a.s).length : Int)
 let y28 (a : LvI) := decide (y27 a)
 let y29 (a1 : LvI) (a2 : LvI) := (AR q a1.s).length = (AR q a2.s).length
 let y30 (a1 : LvI) (a2 : LvI) := ∀ (i : Nat), y13 i a1 -> y15 a1 i = y15 a2 i /\ ∀ (i_1 : Nat), y16 i_1 a1 i -> y17 a1 i i_1 = y17 a2 i i_1
 let y31 (a : LvI) (a1 : LvI) := (↑a.s : Int) = (↑a1.s : Int)
 let y32 (a : LvI) (a1 : LvI) := (↑a.k : Int) = (↑a1.k : Int)
 let y33 (a : LvI) := (↑a.d : Int) - 1
 let y34 (a : LvI) := y33 a = -1
 let y35 (a1 : Nat) : Shape := Tv q (y23 a1)
 let y36 (a1 : Nat) (a2 : LvI) := (y35 a1).meas a2
 let y37 (a1 : Nat) (a2 : LvI) : List Nat := y36 a1 a2 :: ((y35 a1).tag ++ y22 a1)
 let y38 (a1 : Nat) (a2 : LvI) := (y37 a1 a2).getD 2 0
 let y39 (a : LvI) := a.k < (AR q a.s).length
 let y40 (a1 : LvI) := (AR q a1.s).length - a1.k
 let y41 (a1 : Nat) (a2 : LvI) := (y37 a1 a2).getD 0 0
 let y42 (a : LvI) := a.d <= 3
 let y43 (a : LvI) (a2 : Nat) (a3 : LvI) := y19 a /\ y20 a = y38 a2 a3 /\ y39 a /\ y40 a = y41 a2 a3 /\ y42 a
 let y44 (a : LvI) (a2 : Nat) (a3 : LvI) := y43 a a2 a3 /\ y25 a
 let y45 (a : LvI) := decide (y33 a <= 1)
 let y46 (a : LvI) := 0 <= (↑a.s : Int) /\ (↑a.s : Int) < (↑q.grp.length : Int)
 let y47 (a : LvI) (a1 : LvI) := y33 a = y33 a1
 let y48 (a1 : LvI) (a2 : LvI) := ND q a1.s a1.d = IntKind.i64.wrap (q.gate + y33 a2)
 let y49 (a1 : Nat) (a2 : LvI) : Shape := Pc q (y41 a1 a2) (y38 a1 a2)
 let y50 (a1 : Nat) (a2 : LvI) (a3 : LvI) := (y49 a1 a2).meas a3
 let y51 (a1 : Nat) (a2 : LvI) (a3 : LvI) : List Nat := y50 a1 a2 a3 :: ((y49 a1 a2).tag ++ y37 a1 a2)
 let y52 (a1 : Nat) (a2 : LvI) (a3 : LvI) := (y51 a1 a2 a3).getD 4 0
 let y53 (a1 : LvI) (a2 : Nat) (a3 : LvI) (a4 : LvI) := y20 a1 = y52 a2 a3 a4
 let y54 (a1 : Nat) (a2 : LvI) (a3 : LvI) := (y51 a1 a2 a3).getD 2 0
 let y55 (a1 : LvI) (a2 : Nat) (a3 : LvI) (a4 : LvI) := y40 a1 = y54 a2 a3 a4
 let y56 (a : LvI) := a.d < 3
 let y57 (a : LvI) := 3 - a.d
 let y58 (a1 : Nat) (a2 : LvI) (a3 : LvI) := (y51 a1 a2 a3).getD 0 0
 let y59 (a : LvI) := a.i <= q.N.r.length
 let y60 (a : LvI) (a2 : Nat) (a3 : LvI) (a4 : LvI) := (y19 a /\ y53 a a2 a3 a4 /\ y39 a /\ y55 a a2 a3 a4 /\ y56 a /\ y57 a = y58 a2 a3 a4 /\ y59 a) /\ y25 a
 let y61 (a1 : LvI) (a2 : LvI) := ND q a1.s a1.d = y33 a2
 let y62 (a1 : LvI) (a2 : LvI) := ND q a1.s a1.d = ND q a2.s a2.d
 let y63 (a1 : LvI) : List Int := gD (AR q a1.s) a1.k
 let y64 (a1 : LvI) := NR q a1.s (y63 a1) (ND q a1.s a1.d) a1.i
 let y65 (a1 : LvI) := y64 a1 = true
 let y66 (a : LvI) := (↑a.i : Int) = 0
 let y67 (a1 : Nat) (a2 : LvI) (a3 : LvI) : List Nat := (Oq q (y58 a1 a2 a3) (y54 a1 a2 a3) (y52 a1 a2 a3)).tag ++ y51 a1 a2 a3
 let y68 (a1 : Nat) (a2 : LvI) (a3 : LvI) := (y67 a1 a2 a3).getD 4 0
 let y69 (a1 : Nat) (a2 : LvI) (a3 : LvI) := (y67 a1 a2 a3).getD 2 0
 let y70 (a1 : Nat) (a2 : LvI) (a3 : LvI) := (y67 a1 a2 a3).getD 0 0
 let y71 (a : LvI) (a2 : Nat) (a3 : LvI) (a4 : LvI) := (y19 a /\ y20 a = y68 a2 a3 a4 /\ y39 a /\ y40 a = y69 a2 a3 a4 /\ y56 a /\ y57 a = y70 a2 a3 a4 /\ y59 a) /\ y25 a
 let y72 (a : LvI) := (↑a.i : Int) < (↑q.N.r.length : Int)
 let y73 (a : LvI) := decide (y72 a)
 let y74 (a : LvI) := 0 <= (↑a.i : Int) /\ y72 a
 let y75 (a : LvI) := y74 a /\ y74 a
 let y76 (a1 : LvI) := decide ((gD q.N.r a1.i).fr > (gD q.N.r a1.i).to)
 let y77 (a1 : LvI) := (gD q.N.r a1.i).fr != (↑a1.s : Int)
 let y78 (a1 : LvI) := (y64 a1 && !y77 a1) = true
 let y79 (a : LvI) := 0 <= (↑a.k : Int) /\ y27 a
 let y80 (a1 : LvI) := (y63 a1).length
 let y81 (a1 : LvI) := (y78 a1 -> y79 a1) /\ (y78 a1 -> 0 <= (gD q.N.r a1.i).to /\ (gD q.N.r a1.i).to < (↑(y80 a1) : Int))
 let y82 (a1 : LvI) (a2 : LvI) := y64 a1 = bif y64 a2 then bif y77 a2 then true else !!inM (IntKind.i64.wrap (ND q a2.s a2.d - gD (y63 a2) (gD q.N.r a2.i).to.toNat)) (-1) 1 else false
 let y83 (a : LvI) (a1 : LvI) := (↑a.i : Int) = IntKind.i64.wrap ((↑a1.i : Int) + 1)
 let y84 (a : LvI) (a1 : LvI) := y83 a a1 /\ y12
 let y85 (a1 : Nat) (a2 : LvI) (a3 : LvI) (a4 : LvI) := (Oe q (y70 a1 a2 a3) (y69 a1 a2 a3) (y68 a1 a2 a3)).meas a4
 let y86 (a : LvI) (a2 : Nat) (a3 : LvI) (a4 : LvI) (a5 : LvI) := y71 a a2 a3 a4 /\ y85 a2 a3 a4 a < y85 a2 a3 a4 a5
 let y87 (a1 : LvI) := (gD q.N.r a1.i).to != (↑a1.s : Int)
 let y88 (a1 : LvI) := (y64 a1 && !y87 a1) = true
 let y89 (a1 : LvI) := (y88 a1 -> y79 a1) /\ (y88 a1 -> 0 <= (gD q.N.r a1.i).fr /\ (gD q.N.r a1.i).fr < (↑(y80 a1) : Int))
 let y90 (a1 : LvI) (a2 : LvI) := y64 a1 = bif y64 a2 then bif y87 a2 then true else !!inM (IntKind.i64.wrap (ND q a2.s a2.d - gD (y63 a2) (gD q.N.r a2.i).fr.toNat)) (-1) 1 else false
 let y91 := 0 < 0
 let y92 := 1 = 1
 let y93 (a1 : LvI) := 0 < y80 a1
 let y94 (a1 : LvI) := 0 + y80 a1
 let y95 (a1 : LvI) := (y0 /\ (y91 -> y92)) /\ (True /\ (y93 a1 -> y92)) /\ (false = true -> y93 a1) /\ y94 a1 <= 9223372036854775807 /\ y94 a1 * 8 <= 140737488355328
 let y96 := 0 < 1
 let y97 := y3 /\ (y96 -> y92)
 let y98 := false = true -> y96
 let y99 (a1 : LvI) := y94 a1 + 1
 let y100 (a1 : LvI) := (y94 a1 = y94 a1 /\ (0 < y94 a1 -> y92)) /\ y97 /\ y98 /\ y99 a1 <= 9223372036854775807 /\ y99 a1 * 8 <= 140737488355328
 let y101 (a1 : LvI) := (FX q a1).length = 1
 let y102 (a : LvI) := y33 a - 1
 let y103 (a : LvI) (a1 : LvI) := y102 a = y33 a1
 let y104 (i : Nat) (a1 : LvI) := i < (FX q a1).length
 let y105 (a1 : LvI) (i : Nat) := (gD (FX q a1) i).length
 let y106 (i : Nat) (a1 : LvI) (i1 : Nat) := i < y105 a1 i1
 let y107 (a1 : LvI) (i : Nat) (i1 : Nat) := gD (gD (FX q a1) i) i1
 let y108 (i : Nat) (a1 : LvI) := bif decide (i < y94 a1) then gD (y63 a1) (i - 0) else ND q a1.s a1.d
 let y109 (a : LvI) := y57 a + 1
 let y110 (a : LvI) (a2 : Nat) (a3 : LvI) (a4 : LvI) := (y19 a /\ y53 a a2 a3 a4 /\ y39 a /\ y55 a a2 a3 a4 /\ y42 a) /\ y109 a = y58 a2 a3 a4
 let y111 (a : LvI) (a2 : Nat) (a3 : LvI) (a4 : LvI) := y110 a a2 a3 a4 /\ y25 a
 let y112 (a1 : LvI) (a2 : LvI) := (FX q a1).length = (FX q a2).length
 let y113 (a : LvI) (a1 : LvI) := y33 a = IntKind.i64.wrap (y102 a1 + 1)
 let y114 (a1 : LvI) (a2 : LvI) := y8 /\ y9 /\ y10 /\ y11 /\ y112 a1 a2 /\ ∀ (i : Nat), y104 i a1 -> y105 a1 i = y105 a2 i /\ ∀ (i_1 : Nat), y106 i_1 a1 i -> y107 a1 i i_1 = y107 a2 i i_1
 let y115 (a1 : LvI) (a2 : LvI) := y1 /\ y2 /\ q.gate = q.gate /\ y29 a1 a2 /\ y30 a1 a2 /\ y31 a1 a2 /\ y0 /\ y112 a1 a2 /\ y32 a1 a2 /\ y113 a1 a2 /\ y114 a1 a2
 let y116 (a1 : Nat) (a2 : LvI) : Shape := Cl q (y41 a1 a2) (y38 a1 a2)
 let y117 (a1 : Nat) (a2 : LvI) (a3 : LvI) := (y116 a1 a2).meas a3
 let y118 (a : LvI) (a1 : LvI) := (↑a.k : Int) = IntKind.i64.wrap ((↑a1.k : Int) + 1)
 let y119 (a1 : LvI) (a2 : LvI) := y1 /\ y2 /\ q.gate = q.gate /\ y29 a1 a2 /\ y30 a1 a2 /\ y31 a1 a2 /\ y0 /\ y112 a1 a2 /\ y32 a1 a2 /\ y47 a1 a2 /\ y48 a1 a2 /\ y114 a1 a2
 let y120 (a1 : Nat) (a2 : LvI) (a3 : LvI) : List Nat := y117 a1 a2 a3 :: ((y116 a1 a2).tag ++ y37 a1 a2)
 let y121 (a1 : Nat) (a2 : LvI) (a3 : LvI) := (y120 a1 a2 a3).getD 4 0
 let y122 (a1 : LvI) (a2 : Nat) (a3 : LvI) (a4 : LvI) := y20 a1 = y121 a2 a3 a4
 let y123 (a1 : Nat) (a2 : LvI) (a3 : LvI) := (y120 a1 a2 a3).getD 2 0
 let y124 (a1 : LvI) (a2 : Nat) (a3 : LvI) (a4 : LvI) := y40 a1 = y123 a2 a3 a4
 let y125 (a1 : Nat) (a2 : LvI) (a3 : LvI) := (y120 a1 a2 a3).getD 0 0
 let y126 (a : LvI) (a2 : Nat) (a3 : LvI) (a4 : LvI) := y19 a /\ y122 a a2 a3 a4 /\ y39 a /\ y124 a a2 a3 a4 /\ y56 a /\ y57 a = y125 a2 a3 a4 /\ y59 a
 let y127 (a1 : LvI) (a2 : LvI) := y1 /\ y2 /\ q.gate = q.gate /\ y29 a1 a2 /\ y30 a1 a2 /\ y31 a1 a2 /\ y0 /\ y112 a1 a2 /\ y32 a1 a2 /\ y47 a1 a2 /\ y61 a1 a2 /\ y114 a1 a2
 let y128 (a1 : LvI) (a2 : LvI) := y1 /\ y2 /\ q.gate = q.gate /\ y29 a1 a2 /\ y30 a1 a2 /\ y31 a1 a2 /\ y0 /\ y112 a1 a2 /\ y32 a1 a2 /\ y47 a1 a2 /\ y62 a1 a2 /\ y65 a1 /\ y66 a1 /\ y114 a1 a2
 let y129 (a1 : Nat) (a2 : LvI) (a3 : LvI) : List Nat := (Jr q (y125 a1 a2 a3) (y123 a1 a2 a3) (y121 a1 a2 a3)).tag ++ y120 a1 a2 a3
 let y130 (a1 : Nat) (a2 : LvI) (a3 : LvI) := (y129 a1 a2 a3).getD 4 0
 let y131 (a1 : Nat) (a2 : LvI) (a3 : LvI) := (y129 a1 a2 a3).getD 2 0
 let y132 (a1 : Nat) (a2 : LvI) (a3 : LvI) := (y129 a1 a2 a3).getD 0 0
 let y133 (a : LvI) (a2 : Nat) (a3 : LvI) (a4 : LvI) := y19 a /\ y20 a = y130 a2 a3 a4 /\ y39 a /\ y40 a = y131 a2 a3 a4 /\ y56 a /\ y57 a = y132 a2 a3 a4 /\ y59 a
 let y134 (a : LvI) (a1 : LvI) := y83 a a1 /\ y114 a a1
 let y135 (a1 : LvI) (a2 : LvI) := y1 /\ y2 /\ q.gate = q.gate /\ y29 a1 a2 /\ y30 a1 a2 /\ y31 a1 a2 /\ y0 /\ y112 a1 a2 /\ y32 a1 a2 /\ y47 a1 a2 /\ y62 a1 a2 /\ y82 a1 a2 /\ y134 a1 a2
 let y136 (a1 : Nat) (a2 : LvI) (a3 : LvI) (a4 : LvI) := (Js q (y132 a1 a2 a3) (y131 a1 a2 a3) (y130 a1 a2 a3)).meas a4
 let y137 (a : LvI) (a2 : Nat) (a3 : LvI) (a4 : LvI) (a5 : LvI) := y133 a a2 a3 a4 /\ y136 a2 a3 a4 a < y136 a2 a3 a4 a5
 let y138 (a1 : LvI) (a2 : LvI) := y1 /\ y2 /\ q.gate = q.gate /\ y29 a1 a2 /\ y30 a1 a2 /\ y31 a1 a2 /\ y0 /\ y112 a1 a2 /\ y32 a1 a2 /\ y47 a1 a2 /\ y62 a1 a2 /\ y90 a1 a2 /\ y134 a1 a2
 let y139 (a1 : LvI) := (FX q a1).length + 1
 let y140 (a1 : LvI) := ((FX q a1).length = (FX q a1).length /\ (0 < (FX q a1).length -> y92)) /\ y97 /\ y98 /\ y139 a1 <= 9223372036854775807 /\ y139 a1 * 24 <= 140737488355328
 let y141 (a1 : LvI) (a2 : LvI) := (FX q a1).length = y139 a2
 let y142 (i : Nat) (a1 : LvI) := decide (y104 i a1)
 let y143 (a1 : LvI) (a2 : LvI) := y1 /\ y2 /\ q.gate = q.gate /\ y29 a1 a2 /\ y30 a1 a2 /\ y31 a1 a2 /\ y0 /\ y141 a1 a2 /\ y32 a1 a2 /\ y103 a1 a2 /\ y8 /\ y9 /\ y10 /\ y11 /\ y141 a1 a2 /\ ∀ (i : Nat), y104 i a1 -> (y105 a1 i = bif y142 i a2 then y105 a2 i else y99 a2) /\ ∀ (i_1 : Nat), y106 i_1 a1 i -> y107 a1 i i_1 = bif y142 i a2 then y107 a2 i i_1 else y108 i_1 a2
 let y144 (a : LvI) (a2 : Nat) (a3 : LvI) (a4 : LvI) := (y19 a /\ y122 a a2 a3 a4 /\ y39 a /\ y124 a a2 a3 a4 /\ y42 a) /\ y109 a = y125 a2 a3 a4
 let y145 (a1 : LvI) (a2 : LvI) := y1 /\ y2 /\ q.gate = q.gate /\ y29 a1 a2 /\ y30 a1 a2 /\ y31 a1 a2 /\ y0 /\ y112 a1 a2 /\ y32 a1 a2 /\ y103 a1 a2 /\ y114 a1 a2
 let y146 (a1 : Nat) (a2 : LvI) (a3 : LvI) := ∀ (a_1 : LvI), y144 a_1 a1 a2 a3 -> ∃ (a_3 : LvI), y115 a_3 a_1 /\ y43 a_3 a1 a2 /\ y117 a1 a2 a_3 < y117 a1 a2 a3
 let y147 (a1 : LvI) (a2 : LvI) := y1 /\ y2 /\ q.gate = q.gate /\ y29 a1 a2 /\ y30 a1 a2 /\ y31 a1 a2 /\ y0 /\ y112 a1 a2 /\ y118 a1 a2 /\ y114 a1 a2
 let y148 (a1 : Nat) : Shape := Wp q (y23 a1)
 let y149 (a1 : Nat) (a2 : LvI) := (y148 a1).meas a2
 let y150 (a1 : Nat) := (AR q a1).length = 0
 let y151 (a : Nat) (a1 : LvI) := (↑a : Int) = IntKind.i64.wrap ((↑a1.s : Int) + 1) /\ y12
 let y152 (a : Nat) (a2 : Nat) := a.le q.N.g.length /\ y21 a < y21 a2
 let y153 (a1 : Nat) (a2 : LvI) : List Nat := y149 a1 a2 :: ((y148 a1).tag ++ y22 a1)
 let y154 (a1 : Nat) (a2 : LvI) := (y153 a1 a2).getD 2 0
 let y155 (a1 : Nat) (a2 : LvI) := (y153 a1 a2).getD 0 0
 let y156 (a : LvI) (a2 : Nat) (a3 : LvI) := y19 a /\ y20 a = y154 a2 a3 /\ y39 a /\ y40 a = y155 a2 a3 /\ y42 a
 let y157 (a1 : Nat) (a2 : LvI) : Shape := Cl q (y155 a1 a2) (y154 a1 a2)
 let y158 (a1 : Nat) (a2 : LvI) (a3 : LvI) := (y157 a1 a2).meas a3
 let y159 (a1 : Nat) (a2 : LvI) (a3 : LvI) : List Nat := y158 a1 a2 a3 :: ((y157 a1 a2).tag ++ y153 a1 a2)
 let y160 (a1 : Nat) (a2 : LvI) (a3 : LvI) := (y159 a1 a2 a3).getD 4 0
 let y161 (a1 : LvI) (a2 : Nat) (a3 : LvI) (a4 : LvI) := y20 a1 = y160 a2 a3 a4
 let y162 (a1 : Nat) (a2 : LvI) (a3 : LvI) := (y159 a1 a2 a3).getD 2 0
 let y163 (a1 : LvI) (a2 : Nat) (a3 : LvI) (a4 : LvI) := y40 a1 = y162 a2 a3 a4
 let y164 (a1 : Nat) (a2 : LvI) (a3 : LvI) := (y159 a1 a2 a3).getD 0 0
 let y165 (a : LvI) (a2 : Nat) (a3 : LvI) (a4 : LvI) := y19 a /\ y161 a a2 a3 a4 /\ y39 a /\ y163 a a2 a3 a4 /\ y56 a /\ y57 a = y164 a2 a3 a4 /\ y59 a
 let y166 (a1 : Nat) (a2 : LvI) (a3 : LvI) : List Nat := (Jr q (y164 a1 a2 a3) (y162 a1 a2 a3) (y160 a1 a2 a3)).tag ++ y159 a1 a2 a3
 let y167 (a1 : Nat) (a2 : LvI) (a3 : LvI) := (y166 a1 a2 a3).getD 4 0
 let y168 (a1 : Nat) (a2 : LvI) (a3 : LvI) := (y166 a1 a2 a3).getD 2 0
 let y169 (a1 : Nat) (a2 : LvI) (a3 : LvI) := (y166 a1 a2 a3).getD 0 0
 let y170 (a : LvI) (a2 : Nat) (a3 : LvI) (a4 : LvI) := y19 a /\ y20 a = y167 a2 a3 a4 /\ y39 a /\ y40 a = y168 a2 a3 a4 /\ y56 a /\ y57 a = y169 a2 a3 a4 /\ y59 a
 let y171 (a1 : Nat) (a2 : LvI) (a3 : LvI) (a4 : LvI) := (Js q (y169 a1 a2 a3) (y168 a1 a2 a3) (y167 a1 a2 a3)).meas a4
 let y172 (a : LvI) (a2 : Nat) (a3 : LvI) (a4 : LvI) (a5 : LvI) := y170 a a2 a3 a4 /\ y171 a2 a3 a4 a < y171 a2 a3 a4 a5
 let y173 (a : LvI) (a2 : Nat) (a3 : LvI) (a4 : LvI) := (y19 a /\ y161 a a2 a3 a4 /\ y39 a /\ y163 a a2 a3 a4 /\ y42 a) /\ y109 a = y164 a2 a3 a4
 let y174 (a1 : Nat) (a2 : LvI) (a3 : LvI) := ∀ (a_1 : LvI), y173 a_1 a1 a2 a3 -> ∃ (a_3 : LvI), y115 a_3 a_1 /\ y156 a_3 a1 a2 /\ y158 a1 a2 a_3 < y158 a1 a2 a3
 let y175 (a1 : LvI) (j : Nat) : List Int := gD (FX q a1) (0 + j)
 let y176 := (AR q q.N.g.length).length
 let y177 (i : Nat) : List Int := gD (AR q q.N.g.length) i
 let y178 (i : Nat) := (y177 i).length
 (y0 /\ (∃ (a_1 : Nat), (y1 /\ y2 /\ a.gate = a.gate /\ (AR a a_1).length = 1 /\ y3 /\ (∀ (j : Nat), y4 j a_1 -> y5 a_1 j = 0 /\ ∀ (i : Nat), y6 i a_1 j ->
 Value.int IntKind.i64 (y7 a_1 j i) = default) /\ (↑a_1 : Int) = 0 /\ y12) /\ a_1.le a.N.g.length) /\ ∀ (a_1 : Nat), a_1.le a.N.g.length -> bif decide ((↑a_1 : Int) < (↑a.N.g.length : Int)) then (∃ (a_3 : LvI),
 (y1 /\ y2 /\ a.gate = a.gate /\ (AR a a_3.s).length = (AR a a_1).length /\ (∀ (i : Nat), y13 i a_3 -> y15 a_3 i = y5 a_1 i /\ ∀ (i_1 : Nat), y16 i_1 a_3 i -> y17 a_3 i i_1 = y7 a_1 i i_1) /\ (↑a_3.s : Int) = (↑a_1 : Int) /\ y0 /\ y18 /\ (↑a_3.k : Int) = 0 /\ y12) /\ y26 a_3 a_1) /\ (∀ (a_3 : LvI), y26 a_3 a_1 -> bif y28 a_3 then (∃ (a_5 : LvI), (y1 /\ y2 /\ a.gate = a.gate
 /\ y29 a_5 a_3 /\ y30 a_5 a_3 /\ y31 a_5 a_3 /\ y0 /\ y18 /\ y32 a_5 a_3 /\ y34 a_5 /\ y12) /\ y44 a_5 a_1 a_3) /\ (∀ (a_5 : LvI), y44 a_5 a_1 a_3 -> bif y45 a_5 then ((y46 a_5 /\ bif
 gD a.grp a_5.s then ∃ (a_7 : LvI), (y1 /\ y2 /\ a.gate = a.gate /\ y29 a_7 a_5 /\ y30 a_7 a_5 /\ y31 a_7 a_5 /\ y0 /\ y18 /\ y32 a_7 a_5 /\ y47 a_7 a_5 /\ y48 a_7 a_5 /\ y12) /\ y60 a_7 a_1 a_3 a_5 else ∃ (a_7 : LvI), (y1 /\ y2 /\ a.gate = a.gate /\ y29 a_7 a_5 /\ y30 a_7 a_5 /\ y31 a_7 a_5 /\ y0 /\ y18 /\ y32 a_7 a_5 /\ y47 a_7 a_5 /\ y61 a_7 a_5 /\ y12) /\ y60 a_7 a_1 a_3 a_5) /\ ∀ (a_7 : LvI), y60 a_7 a_1 a_3 a_5 -> (∃ (a_9 : LvI), (y1 /\ y2 /\ a.gate = a.gate /\ y29 a_9 a_7 /\ y30 a_9 a_7 /\ y31 a_9 a_7 /\ y0 /\ y18 /\ y32 a_9 a_7 /\ y47 a_9 a_7 /\ y62 a_9 a_7 /\ y65 a_9 /\ y66 a_9 /\ y12) /\ y71 a_9 a_1 a_3 a_5) /\ ∀ (a_9 : LvI), y71 a_9 a_1 a_3 a_5 -> bif y73 a_9 then y75 a_9 /\ bif y76 a_9 then y81 a_9 /\ ∃ (a_11 :
 LvI), (y1 /\ y2 /\ a.gate = a.gate /\ y29 a_11 a_9 /\ y30 a_11 a_9 /\ y31 a_11 a_9 /\ y0 /\ y18 /\ y32 a_11 a_9 /\ y47 a_11 a_9 /\ y62 a_11 a_9 /\ y82 a_11 a_9 /\ y84 a_11 a_9) /\
 y86 a_11 a_1 a_3 a_5 a_9 else y89 a_9 /\ ∃ (a_11 : LvI), (y1 /\ y2 /\ a.gate = a.gate /\ y29 a_11 a_9 /\ y30 a_11 a_9 /\ y31 a_11 a_9 /\ y0 /\ y18 /\ y32 a_11 a_9 /\ y47 a_11 a_9 /\
 y62 a_11 a_9 /\ y90 a_11 a_9 /\ y84 a_11 a_9) /\ y86 a_11 a_1 a_3 a_5 a_9 else bif y64 a_9 then y79 a_9 /\ y95 a_9 /\ y100 a_9 /\ ((True /\ (y91 -> 0 = 1)) /\ y97 /\ (true = true ->
 y96) /\ 1 <= 9223372036854775807 /\ 24 <= 140737488355328) /\ ∃ (a_11 : LvI), (y1 /\ y2 /\ a.gate = a.gate /\ y29 a_11 a_9 /\ y30 a_11 a_9 /\ y31 a_11 a_9 /\ y0 /\ y101 a_11 /\ y32 a_11 a_9 /\
 y103 a_11 a_9 /\ y8 /\ y9 /\ y10 /\ y11 /\ y101 a_11 /\ ∀ (i : Nat), y104 i a_11 -> y105 a_11 i = y99 a_9 /\ ∀ (i_1 : Nat), y106 i_1 a_11 i -> y107 a_11 i i_1 = y108 i_1 a_9) /\ y110 a_11 a_1 a_3 a_5 else ∃ (a_11 : LvI), (y1 /\ y2 /\ a.gate = a.gate /\ y29 a_11 a_9 /\ y30 a_11 a_9 /\ y31 a_11 a_9 /\ y0 /\ y18 /\ y32 a_11 a_9 /\ y103 a_11 a_9 /\ y12) /\
 y111 a_11 a_1 a_3 a_5) /\ (∀ (a_7 : LvI), y110 a_7 a_1 a_3 a_5 -> ∃ (a_9 : LvI), y115 a_9 a_7 /\ y43 a_9 a_1 a_3 /\ y117 a_1 a_3 a_9 < y50 a_1 a_3 a_5) /\ ∀ (a_7 : LvI), y111 a_7 a_1 a_3 a_5
 -> ∃ (a_9 : LvI), (y1 /\ y2 /\ a.gate = a.gate /\ y29 a_9 a_7 /\ y30 a_9 a_7 /\ y31 a_9 a_7 /\ y0 /\ y18 /\ y32 a_9 a_7 /\ y113 a_9 a_7 /\ y12) /\ y44 a_9 a_1 a_3 /\ y50 a_1 a_3 a_9 <
 y50 a_1 a_3 a_5 else ∃ (a_7 : LvI), (y1 /\ y2 /\ a.gate = a.gate /\ y29 a_7 a_5 /\ y30 a_7 a_5 /\ y31 a_7 a_5 /\ y0 /\ y18 /\ y118 a_7 a_5 /\ y12) /\ y26 a_7 a_1 /\ y36 a_1 a_7 <
 y36 a_1 a_3) /\ ∀ (a_5 : LvI), y43 a_5 a_1 a_3 -> bif y45 a_5 then ((y46 a_5 /\ bif gD a.grp a_5.s then ∃ (a_7 : LvI), y119 a_7 a_5 /\ y126 a_7 a_1 a_3 a_5 else ∃ (a_7 : LvI), y127 a_7 a_5 /\
 y126 a_7 a_1 a_3 a_5) /\ ∀ (a_7 : LvI), y126 a_7 a_1 a_3 a_5 -> (∃ (a_9 : LvI), y128 a_9 a_7 /\ y133 a_9 a_1 a_3 a_5) /\ ∀ (a_9 : LvI), y133 a_9 a_1 a_3 a_5 -> bif y73 a_9 then y75 a_9 /\ bif
 y76 a_9 then y81 a_9 /\ ∃ (a_11 : LvI), y135 a_11 a_9 /\ y137 a_11 a_1 a_3 a_5 a_9 else y89 a_9 /\ ∃ (a_11 : LvI), y138 a_11 a_9 /\ y137 a_11 a_1 a_3 a_5 a_9 else bif y64 a_9 then
 y79 a_9 /\ y95 a_9 /\ y100 a_9 /\ y140 a_9 /\ ∃ (a_11 : LvI), y143 a_11 a_9 /\ y144 a_11 a_1 a_3 a_5 else ∃ (a_11 : LvI), y145 a_11 a_9 /\ y144 a_11 a_1 a_3 a_5) /\ y146 a_1 a_3 a_5
 /\ y146 a_1 a_3 a_5 else ∃ (a_7 : LvI), y147 a_7 a_5 /\ y24 a_7 a_1 /\ y149 a_1 a_7 < y36 a_1 a_3 else ∃ (a_5 : Nat), (y1 /\ y2 /\ a.gate = a.gate /\ y150 a_5 /\ y150 a_5 /\ y151 a_5 a_3) /\ y152 a_5 a_1) /\ ∀ (a_3 : LvI), y24 a_3 a_1 -> bif y28 a_3 then (∃ (a_5 : LvI), (y1 /\ y2 /\ a.gate = a.gate /\ y29 a_5 a_3 /\ y30 a_5 a_3 /\ y31 a_5 a_3 /\ y0 /\ y112 a_5 a_3 /\ y32 a_5 a_3 /\ y34 a_5 /\ y114 a_5 a_3) /\ y156 a_5 a_1 a_3) /\ ∀ (a_5 : LvI), y156 a_5 a_1 a_3 -> bif y45 a_5 then ((y46 a_5 /\ bif gD a.grp a_5.s then ∃ (a_7 : LvI), y119 a_7 a_5 /\
 y165 a_7 a_1 a_3 a_5 else ∃ (a_7 : LvI), y127 a_7 a_5 /\ y165 a_7 a_1 a_3 a_5) /\ ∀ (a_7 : LvI), y165 a_7 a_1 a_3 a_5 -> (∃ (a_9 : LvI), y128 a_9 a_7 /\ y170 a_9 a_1 a_3 a_5) /\ ∀ (a_9 : LvI),
 y170 a_9 a_1 a_3 a_5 -> bif y73 a_9 then y75 a_9 /\ bif y76 a_9 then y81 a_9 /\ ∃ (a_11 : LvI), y135 a_11 a_9 /\ y172 a_11 a_1 a_3 a_5 a_9 else y89 a_9 /\ ∃ (a_11 : LvI), y138 a_11 a_9 /\ y172 a_11 a_1 a_3 a_5 a_9 else bif y64 a_9 then y79 a_9 /\ y95 a_9 /\ y100 a_9 /\ y140 a_9 /\ ∃ (a_11 : LvI), y143 a_11 a_9 /\ y173 a_11 a_1 a_3 a_5 else ∃ (a_11 : LvI), y145 a_11 a_9 /\ y173 a_11 a_1 a_3 a_5) /\ y174 a_1 a_3 a_5 /\ y174 a_1 a_3 a_5 else ∃ (a_7 : LvI), y147 a_7 a_5 /\ y24 a_7 a_1 /\ y149 a_1 a_7 < y149 a_1 a_3 else ∃ (a_5 : Nat), (y1 /\ y2 /\ a.gate = a.gate /\ (AR a a_5).length = (FX a a_3).length /\ 0 + (FX a a_3).length <= (FX a a_3).length /\ (∀ (j : Nat), y4 j a_5 -> y5 a_5 j = (y175 a_3 j).length /\ ∀ (i : Nat), y6 i a_5 j ->
 y7 a_5 j i = gD (y175 a_3 j) i) /\ y151 a_5 a_3) /\ y152 a_5 a_1 else y176 = (AR a a_1).length /\ ∀ (i : Nat), i < y176 -> y178 i = y5 a_1 i /\ ∀ (i_1 : Nat), i_1 < y178 i -> gD
 (y177 i) i_1 = y7 a_1 i i_1)) := by kernel_rfl
theorem Wj (a : LvA) {s k d : Nat} (i j : Nat) (h : NR a s (gD (AR a s) k) (ND a s d) a.N.r.length = true) : FX a ⟨s, k, d + 1, i⟩ = FX a ⟨s, k, d, j⟩ ++ [gD (AR a s) k ++ [ND a s d]] := by
 simp only [FX, Mr, QY, h, if_true, List.append_assoc]
theorem Yb (a : LvA) {s k d : Nat} (i j : Nat) (h : NR a s (gD (AR a s) k) (ND a s d) a.N.r.length = false) : FX a ⟨s, k, d + 1, i⟩ = FX a ⟨s, k, d, j⟩ := by
 simp only [FX, Mr, QY, h, List.append_nil, Bool.false_eq_true, if_false]
theorem Qu (a : LvA) (s k i j : Nat) : FX a ⟨s, k + 1, 0, i⟩ = FX a ⟨s, k, 3, j⟩ := by
 simp only [FX, To, Mr, List.append_nil]
theorem Ux (a : LvA) (s i : Nat) : FX a ⟨s, (AR a s).length, 0, i⟩ = AR a (s + 1) := by simp only [FX, Mr, List.append_nil, AR]
theorem Ry {a : LvA} {s d : Nat} {lv l : List Int} (h : l ∈ QY a s lv d) : l.length = lv.length + 1 := by
 unfold QY at h; split at h
 ·simp only [List.mem_singleton] at h; subst h; simp
 ·cases h
theorem Te (a : LvA) (s d : Nat) (lv : List Int) : (QY a s lv d).length <= 1 := by unfold QY; split <;> simp
theorem Qf {a : LvA} {s : Nat} {lv l : List Int} : ∀ {d : Nat}, l ∈ Mr a s lv d -> l.length = lv.length + 1
 | 0, h => by cases h
 | d + 1, h => by
  rcases List.mem_append.1 h with h | h
  ·exact Qf h
  ·exact Ry h
theorem Ix (a : LvA) (s : Nat) (lv : List Int) : ∀ d : Nat, (Mr a s lv d).length <= d
 | 0 => Nat.le_refl _
 | d + 1 => by
  have := Ix a s lv d
  have := Te a s d lv
  simp only [Mr, List.length_append]; omega
theorem Rf {a : LvA} {s : Nat} {all : List (List Int)} (ha : ∀ l ∈ all, l.length = s) {l : List Int} : ∀ {k : Nat}, k <= all.length -> l ∈ To a s all k -> l.length = s + 1
 | 0, _, h => by cases h
 | k + 1, hk, h => by
  rcases List.mem_append.1 h with h | h
  ·exact Rf ha (by omega) h
  ·rw [Qf h, ha _ (JG (by omega))]
theorem Jj (a : LvA) (s : Nat) (all : List (List Int)) : ∀ k : Nat, (To a s all k).length <= 3 * k
 | 0 => Nat.le_refl _
 | k + 1 => by
  have := Jj a s all k
  have := Ix a s (gD all k) 3
  simp only [To, List.length_append]; omega
theorem Gc (a : LvA) : ∀ (s : Nat) (l : List Int), l ∈ AR a s -> l.length = s
 | 0, l, h => by
  simp only [AR, List.mem_singleton] at h; subst h; rfl
 | s + 1, l, h => Rf (Gc a s) (Nat.le_refl _) h
theorem Ga (a : LvA) : ∀ s : Nat, (AR a s).length <= 3 ^ s
 | 0 => Nat.le_refl _
 | s + 1 => by
  have h1 := Ga a s
  have h2 := Jj a s (AR a s) (AR a s).length
  simp only [AR]
  rw [Nat.pow_succ]; omega
theorem QX (a : LvA) {s : Nat} (h : s <= 8) : (AR a s).length <= 6561 := by
 have h1 := Ga a s
 have h2 : 3 ^ s <= 3 ^ 8 := Nat.pow_le_pow_right (by omega) h
 have : (3 : Nat) ^ 8 = 6561 := by decide
 omega
theorem Vs (a : LvA) (x : LvI) : (FX a x).length <= 3 * x.k + x.d := by
 have h1 := Jj a x.s (AR a x.s) x.k
 have h2 := Ix a x.s (gD (AR a x.s) x.k) x.d
 simp only [FX, List.length_append]; omega
theorem NP (a : LvA) {s k : Nat} (h : k < (AR a s).length) : (gD (AR a s) k).length = s := Gc a s _ (JG h)
theorem Qi (a : LvA) (hg : -1 <= a.gate /\ a.gate <= 1) : ∀ s : Nat, List.replicate s 0 ∈ AR a s
 | 0 => by simp [AR]
 | s + 1 => by
  have ih := Qi a hg s
  obtain ⟨d, hd, hx⟩ : ∃ d : Nat, d < 3 /\ ND a s d = 0 := by
   by_cases h : gD a.grp s = true
   ·refine ⟨(1 - a.gate).toNat, by omega, ?_⟩
    unfold ND; rw [h]
    have : wr (a.gate + (((1 - a.gate).toNat : Int) - 1)) = a.gate + (((1 - a.gate).toNat : Int) - 1) := LO (by omega) (by omega)
    show wr _ = 0
    rw [this]; omega
   ·refine ⟨1, by omega, ?_⟩
    unfold ND
    rw [show gD a.grp s = false by simpa using h]; rfl
  have hB : ∀ r, lvB s (List.replicate s 0) 0 r = true := λ r => by
   unfold lvB
   have : ∀ q : Nat, gD (List.replicate s (0 : Int)) q = 0 := λ q => by rw [CM]; split <;> rfl
   rw [this]
   have : inM (wr (0 - 0)) (-1) 1 = true := by decide
   rw [this, Bool.or_true]
  have hF : ∀ n, NR a s (List.replicate s 0) 0 n = true := λ n => by
   induction n with
   | zero => rfl
   | succ n ih => simp only [NR, ih, hB, Bool.and_self]
  obtain ⟨k, hk, he⟩ := List.getElem_of_mem ih
  have hgk : gD (AR a s) k = List.replicate s 0 := by rw [<- he]; simp [gD, List.getElem?_eq_getElem hk]
  have m1 : List.replicate (s + 1) (0 : Int) ∈ QY a s (List.replicate s 0) d := by
   unfold QY; rw [hx, hF, if_pos rfl, List.mem_singleton, List.replicate_succ']
  have m2 : ∀ n, d < n -> List.replicate (s + 1) (0 : Int) ∈ Mr a s (List.replicate s 0) n := λ n => by
   induction n with
   | zero => intro h; omega
   | succ n ih =>
    intro h
    simp only [Mr, List.mem_append]
    by_cases h' : d = n
    ·subst h'; exact .inr m1
    ·exact .inl (ih (by omega))
  have m3 : ∀ n, k < n -> List.replicate (s + 1) (0 : Int) ∈ To a s (AR a s) n := λ n => by
   induction n with
   | zero => intro h; omega
   | succ n ih =>
    intro h
    simp only [To, List.mem_append]
    by_cases h' : k = n
    ·subst h'; rw [hgk]; exact .inr (m2 3 hd)
    ·exact .inl (ih (by omega))
  exact m3 _ hk
theorem AAJ (a : LvA) {s : Nat} {lv : List Int} {x : Int} {i : Nat} (h : (gD a.N.r i).fr > (gD a.N.r i).to) : NR a s lv x (i + 1) = bif NR a s lv x i then bif (gD a.N.r i).fr != (s : Int) then true else !!inM (wr (x - gD lv (gD a.N.r i).to.toNat)) (-1) 1 else false := by
 simp only [NR, lvB, decide_eq_true h, cond_true]
 cases NR a s lv x i <;> cases ((gD a.N.r i).fr != (s : Int)) <;> simp
theorem Zz (a : LvA) {s : Nat} {lv : List Int} {x : Int} {i : Nat} (h : ¬ (gD a.N.r i).fr > (gD a.N.r i).to) : NR a s lv x (i + 1) = bif NR a s lv x i then bif (gD a.N.r i).to != (s : Int) then true else !!inM (wr (x - gD lv (gD a.N.r i).fr.toNat)) (-1) 1 else false := by
 simp only [NR, lvB, decide_eq_false h, cond_false]
 cases NR a s lv x i <;> cases ((gD a.N.r i).to != (s : Int)) <;> simp
theorem p53 (a : LvA) (h1 : AC a.N = 0) (h2 : a.grp.length = a.N.g.length) (h3 : -1 <= a.gate /\ a.gate <= 1) : V53 a := by
 rw [vc53]; (conv => zeta); simp only [CC, eq_self, implies_true, forall_const]
 simp only [Tv, Wp, Pc, Cl, Oq, Jr, Oe, Js, Ve, Ob, Ou, List.cons_append, List.nil_append, List.append_nil, List.getD_cons_zero, List.getD_cons_succ, List.headD_cons]
 have hg := AS h1
 have hg8 := hg.g8
 have hr14 := hg.r14
 have B3 : ∀ s, s < a.N.g.length -> (AR a s).length <= 6561 := λ s hs => QX a (by omega)
 have W : ∀ s : Nat, ∀ i, i < (AR a s).length -> (gD (AR a s) i).length = (gD (AR a s) i).length /\ ∀ j, j < (gD (AR a s) i).length -> gD (gD (AR a s) i) j = gD (gD (AR a s) i) j := λ _ _ _ => ⟨rfl, λ _ _ => rfl⟩
 refine ⟨⟨0, ⟨rfl, by decide, λ j hj => ⟨?r1, λ i hi => ?r2⟩, rfl⟩, Nat.zero_le _⟩, λ s hs => ⟨λ hlt => ⟨⟨⟨s, 0, 0, 0⟩, ⟨rfl, W s, rfl, rfl⟩, ⟨by simp only; omega, rfl, Nat.zero_le _, rfl⟩, rfl⟩, λ y hy => ⟨λ hk => ⟨⟨⟨y.s, y.k, 0, 0⟩, ⟨rfl, W y.s, rfl, rfl, rfl⟩, ⟨?r3, ?r4⟩⟩, ?n10, ?o10⟩, ?e7n⟩, λ y hy => ⟨λ hk => ⟨?w7o, ?o10b⟩, ?e7o⟩⟩, ?fin⟩⟩
 case fin =>
  intro hge
  have : s = a.N.g.length := by omega
  subst this
  exact ⟨rfl, W _⟩
 case e7n =>
  intro hge
  exfalso
  obtain ⟨⟨q1, q2, q3, q4⟩, q5⟩ := hy
  obtain ⟨ys, yk, yd, yi⟩ := y
  simp only at q1 q2 q3 q4 hge
  have hk : yk = (AR a ys).length := by omega
  subst hk q4
  rw [Ux] at q5
  have := Qi a h3 (ys + 1)
  rw [q5] at this; cases this
 case e7o =>
  intro hge
  obtain ⟨q1, q2, q3, q4⟩ := hy
  obtain ⟨ys, yk, yd, yi⟩ := y
  simp only at q1 q2 q3 q4 hge ⊢
  have hk : yk = (AR a ys).length := by omega
  subst hk q4
  rw [Ux]
  exact ⟨ys + 1, ⟨rfl, Nat.le_refl _, W _, (AN (by omega)).symm⟩, by omega, by omega⟩
 case n10 =>
  intro z ⟨⟨q1, q2, q3, q4, q5⟩, q6⟩
  have b3 := B3 z.s q1
  refine ⟨λ hd => ⟨⟨⟨⟨by omega, by omega⟩, λ hb => ⟨⟨z.s, z.k, z.d, 0⟩, ⟨rfl, W z.s, rfl, rfl, rfl, ?x1⟩, ⟨q1, q2, q3, q4, by simp only; omega, rfl, Nat.zero_le _⟩, q6⟩, λ hb => ⟨⟨z.s, z.k, z.d, 0⟩, ⟨rfl, W z.s, rfl, rfl, rfl, ?x2⟩, ⟨q1, q2, q3, q4, by simp only; omega, rfl, Nat.zero_le _⟩, q6⟩⟩, λ u ⟨⟨u1, u2, u3, u4, u5, u6, _⟩, u8⟩ => ⟨⟨⟨u.s, u.k, u.d, 0⟩, ⟨rfl, W u.s, rfl, rfl, rfl, rfl, rfl, rfl⟩, ⟨u1, u2, u3, u4, u5, u6, Nat.zero_le _⟩, u8⟩, λ v ⟨⟨v1, v2, v3, v4, v5, v6, v7⟩, v8⟩ => ⟨λ hi => ?st17, λ hi => ?ex17⟩⟩⟩, ?c11w, ?c11n⟩, λ hd => ?e10⟩
  case x1 => show ND a z.s z.d = _; unfold ND; rw [hb]; rfl
  case x2 => show ND a z.s z.d = _; unfold ND; rw [hb]; rfl
  case st17 =>
   have ll := NP a v3
   obtain ⟨_, b1, b2, b3⟩ := hg.r v.i (by omega)
   refine ⟨⟨by omega, by omega⟩, λ hgt => ⟨⟨λ _ => ⟨by omega, by omega⟩, λ hc => ?_⟩, ⟨⟨v.s, v.k, v.d, v.i + 1⟩, ⟨rfl, W v.s, rfl, rfl, rfl, rfl, AAJ a hgt, (AN (by omega)).symm⟩, ⟨⟨v1, v2, v3, v4, v5, v6, by simp only; omega⟩, v8⟩, by simp only; omega⟩⟩, λ hgt => ⟨⟨λ _ => ⟨by omega, by omega⟩, λ hc => ?_⟩, ⟨⟨v.s, v.k, v.d, v.i + 1⟩, ⟨rfl, W v.s, rfl, rfl, rfl, rfl, Zz a hgt, (AN (by omega)).symm⟩, ⟨⟨v1, v2, v3, v4, v5, v6, by simp only; omega⟩, v8⟩, by simp only; omega⟩⟩⟩
   ·have hc : (gD a.N.r v.i).fr = v.s := by simp at hc; exact hc.2
    rw [ll]; omega
   ·have hc : (gD a.N.r v.i).to = v.s := by simp at hc; exact hc.2
    rw [ll]; omega
  case ex17 =>
   obtain ⟨vs, vk, vd, vi⟩ := v
   simp only at v1 v2 v3 v4 v5 v6 v7 hi v8 ⊢
   have hi' : vi = a.N.r.length := by omega
   subst hi'
   have ll := NP a v3
   have b4 := B3 vs v1
   refine ⟨λ hf => ⟨⟨by omega, by omega⟩, ⟨λ h => absurd h (by decide), by omega, by omega⟩, ⟨by omega, λ h => absurd h (by decide), by omega, by omega⟩, ⟨λ h => absurd h (by decide), by decide, by decide, by decide, by decide⟩, ⟨⟨vs, vk, vd + 1, 0⟩, ?_⟩⟩, λ hf => ⟨⟨vs, vk, vd + 1, 0⟩, ⟨rfl, W vs, rfl, rfl, by simp only; omega⟩, ⟨⟨v1, v2, v3, v4, by simp only; omega⟩, by simp only; omega⟩, by rw [Yb a 0 a.N.r.length hf, v8]⟩⟩
   have en := Wj a 0 a.N.r.length hf
   rw [v8, List.nil_append] at en
   refine ⟨⟨rfl, W vs, rfl, by rw [en]; rfl, rfl, by simp only; omega, by rw [en]; rfl, λ i hi => ?_⟩, ⟨v1, v2, v3, v4, by simp only; omega⟩, by simp only; omega⟩
   rw [en] at hi ⊢
   have hi0 : i = 0 := by simpa using hi
   subst hi0
   show (gD (AR a vs) vk ++ [ND a vs vd]).length = _ /\ ∀ j, j < (gD (AR a vs) vk ++ [ND a vs vd]).length -> gD (gD (AR a vs) vk ++ [ND a vs vd]) j = _
   refine ⟨by simp, λ j hj => ?_⟩
   rw [BO, Nat.sub_zero]
   by_cases h : j < (gD (AR a vs) vk).length
   ·rw [if_pos h, decide_eq_true h]; rfl
   ·have : j - (gD (AR a vs) vk).length = 0 := by simp at hj; omega
    rw [if_neg h, decide_eq_false h, this]; rfl
  case c11w =>
   intro u ⟨⟨u1, u2, u3, u4, u5⟩, u6⟩
   exact ⟨u, ⟨rfl, W u.s, rfl, rfl, rfl, by rw [LO (by omega) (by omega)]; omega, rfl, λ _ _ => ⟨rfl, λ _ _ => rfl⟩⟩, ⟨u1, u2, u3, u4, u5⟩, by omega⟩
  case c11n =>
   intro u ⟨⟨⟨u1, u2, u3, u4, u5⟩, u6⟩, u7⟩
   exact ⟨u, ⟨rfl, W u.s, rfl, rfl, by rw [LO (by omega) (by omega)]; omega⟩, ⟨⟨u1, u2, u3, u4, u5⟩, u7⟩, by omega⟩
  case e10 =>
   obtain ⟨zs, zk, zd, zi⟩ := z
   simp only at q1 q2 q3 q4 q5 q6 hd b3 ⊢
   have : zd = 3 := by omega
   subst this
   exact ⟨⟨zs, zk + 1, 0, 0⟩, ⟨rfl, W zs, rfl, (AN (by omega)).symm⟩, ⟨⟨q1, q2, by simp only; omega, rfl⟩, by rw [Qu a zs zk 0 zi]; exact q6⟩, by simp only; omega⟩
 case r1 => exact NP a hj
 case r2 => rw [NP a hj] at hi; exact absurd hi (Nat.not_lt_zero _)
 case r3 =>
  obtain ⟨⟨q1, q2, q3, q4⟩, q5⟩ := hy
  exact ⟨q1, q2, by simp only; omega, rfl, by simp only; omega⟩
 case r4 =>
  obtain ⟨⟨q1, q2, q3, q4⟩, q5⟩ := hy
  obtain ⟨ys, yk, yd, yi⟩ := y
  simp only at q4
  subst q4; exact q5
 case w7o =>
  obtain ⟨q1, q2, q3, q4⟩ := hy
  obtain ⟨ys, yk, yd, yi⟩ := y
  simp only at q1 q2 q3 q4 hk ⊢
  subst q4
  exact ⟨⟨ys, yk, 0, 0⟩, ⟨rfl, W ys, rfl, rfl, rfl, rfl, rfl, λ _ _ => ⟨rfl, λ _ _ => rfl⟩⟩, q1, q2, by simp only; omega, rfl, by simp only; omega⟩
 all_goals
  intro z ⟨q1, q2, q3, q4, q5⟩
  have b3 := B3 z.s q1
  refine ⟨λ hd => ⟨⟨⟨⟨by omega, by omega⟩, λ hb => ⟨⟨z.s, z.k, z.d, 0⟩, ⟨rfl, W z.s, rfl, rfl, rfl, rfl, ?x1, rfl, λ _ _ => ⟨rfl, λ _ _ => rfl⟩⟩, ⟨q1, q2, q3, q4, by simp only; omega, rfl, Nat.zero_le _⟩⟩, λ hb => ⟨⟨z.s, z.k, z.d, 0⟩, ⟨rfl, W z.s, rfl, rfl, rfl, rfl, ?x2, rfl, λ _ _ => ⟨rfl, λ _ _ => rfl⟩⟩, ⟨q1, q2, q3, q4, by simp only; omega, rfl, Nat.zero_le _⟩⟩⟩, λ u ⟨u1, u2, u3, u4, u5, u6, _⟩ => ⟨⟨⟨u.s, u.k, u.d, 0⟩, ⟨rfl, W u.s, rfl, rfl, rfl, rfl, rfl, rfl, rfl, rfl, λ _ _ => ⟨rfl, λ _ _ => rfl⟩⟩, ⟨u1, u2, u3, u4, u5, u6, Nat.zero_le _⟩⟩, λ v ⟨v1, v2, v3, v4, v5, v6, v7⟩ => ⟨λ hi => ?st17, λ hi => ?ex17⟩⟩⟩, ?c11w⟩, λ hd => ?e10⟩
  case x1 => show ND a z.s z.d = _; unfold ND; rw [hb]; rfl
  case x2 => show ND a z.s z.d = _; unfold ND; rw [hb]; rfl
  case st17 =>
   have ll := NP a v3
   obtain ⟨_, b1, b2, b3⟩ := hg.r v.i (by omega)
   refine ⟨⟨by omega, by omega⟩, λ hgt => ⟨⟨λ _ => ⟨by omega, by omega⟩, λ hc => ?_⟩, ⟨⟨v.s, v.k, v.d, v.i + 1⟩, ⟨rfl, W v.s, rfl, rfl, rfl, rfl, rfl, AAJ a hgt, (AN (by omega)).symm, rfl, λ _ _ => ⟨rfl, λ _ _ => rfl⟩⟩, ⟨v1, v2, v3, v4, v5, v6, by simp only; omega⟩, by simp only; omega⟩⟩, λ hgt => ⟨⟨λ _ => ⟨by omega, by omega⟩, λ hc => ?_⟩, ⟨⟨v.s, v.k, v.d, v.i + 1⟩, ⟨rfl, W v.s, rfl, rfl, rfl, rfl, rfl, Zz a hgt, (AN (by omega)).symm, rfl, λ _ _ => ⟨rfl, λ _ _ => rfl⟩⟩, ⟨v1, v2, v3, v4, v5, v6, by simp only; omega⟩, by simp only; omega⟩⟩⟩
   ·have hc : (gD a.N.r v.i).fr = v.s := by simp at hc; exact hc.2
    rw [ll]; omega
   ·have hc : (gD a.N.r v.i).to = v.s := by simp at hc; exact hc.2
    rw [ll]; omega
  case ex17 =>
   obtain ⟨vs, vk, vd, vi⟩ := v
   simp only at v1 v2 v3 v4 v5 v6 v7 hi ⊢
   have hi' : vi = a.N.r.length := by omega
   subst hi'
   have ll := NP a v3
   have b4 := B3 vs v1
   have b5 := Vs a ⟨vs, vk, vd, a.N.r.length⟩
   simp only at b5
   refine ⟨λ hf => ⟨⟨by omega, by omega⟩, ⟨λ h => absurd h (by decide), by omega, by omega⟩, ⟨by omega, λ h => absurd h (by decide), by omega, by omega⟩, ⟨by omega, λ h => absurd h (by decide), by omega, by omega⟩, ⟨⟨vs, vk, vd + 1, 0⟩, ?_⟩⟩, λ hf => ⟨⟨vs, vk, vd + 1, 0⟩, ?_⟩⟩
   ·have en := Wj a 0 a.N.r.length hf
    have el : (FX a ⟨vs, vk, vd + 1, 0⟩).length = (FX a ⟨vs, vk, vd, a.N.r.length⟩).length + 1 := by rw [en]; simp
    refine ⟨⟨rfl, W vs, rfl, el, rfl, by simp only; omega, el, λ i hi => ?_⟩, ⟨v1, v2, v3, v4, by simp only; omega⟩, by simp only; omega⟩
    rw [el] at hi
    rw [en, BO]
    by_cases h0 : i < (FX a ⟨vs, vk, vd, a.N.r.length⟩).length
    ·simp only [if_pos h0, decide_eq_true h0, cond_true]; exact ⟨trivial, λ _ _ => trivial⟩
    ·have e0 : i - (FX a ⟨vs, vk, vd, a.N.r.length⟩).length = 0 := by omega
     simp only [if_neg h0, decide_eq_false h0, cond_false, e0]
     show (gD (AR a vs) vk ++ [ND a vs vd]).length = _ /\ ∀ j, j < (gD (AR a vs) vk ++ [ND a vs vd]).length -> gD (gD (AR a vs) vk ++ [ND a vs vd]) j = _
     refine ⟨by simp, λ j hj => ?_⟩
     rw [BO, Nat.sub_zero]
     by_cases h : j < (gD (AR a vs) vk).length
     ·rw [if_pos h, decide_eq_true h]; rfl
     ·have : j - (gD (AR a vs) vk).length = 0 := by simp at hj; omega
      rw [if_neg h, decide_eq_false h, this]; rfl
   ·have en := Yb a 0 a.N.r.length hf
    refine ⟨⟨rfl, W vs, rfl, by rw [en], rfl, by simp only; omega, by rw [en], λ i hi => ?_⟩, ⟨v1, v2, v3, v4, by simp only; omega⟩, by simp only; omega⟩
    rw [en]; exact ⟨rfl, λ _ _ => rfl⟩
  case c11w =>
   intro u ⟨⟨u1, u2, u3, u4, u5⟩, u6⟩
   exact ⟨u, ⟨rfl, W u.s, rfl, rfl, rfl, by rw [LO (by omega) (by omega)]; omega, rfl, λ _ _ => ⟨rfl, λ _ _ => rfl⟩⟩, ⟨u1, u2, u3, u4, u5⟩, by omega⟩
  case e10 =>
   obtain ⟨zs, zk, zd, zi⟩ := z
   simp only at q1 q2 q3 q4 q5 hd b3 ⊢
   have : zd = 3 := by omega
   subst this
   have en := Qu a zs zk 0 zi
   refine ⟨⟨zs, zk + 1, 0, 0⟩, ⟨rfl, W zs, rfl, by rw [en], (AN (by omega)).symm, by rw [en], λ i hi => ?_⟩, ⟨q1, q2, by simp only; omega, rfl⟩, by simp only; omega⟩
   rw [en]; exact ⟨rfl, λ _ _ => rfl⟩
def d53 : List AVal -> Heap -> Option (LvA × List (Nat × Nat) × List Nat)
 | [x, g, .d (.v (.int _ q))], H => match Si x H, Vg g H with
  | some (N, f1), some (grp, f2) => some (⟨N, grp, q⟩, [], f1 ++ f2)
  | _, _ => none
 | _, _ => none
theorem Yw : AI Try.prog 53 (C53.spec d53) := HQ C53 A53 [] [] Try.func53 (λ _ => by kernel_rfl) (λ _ => AA So AF) (λ a h => p53 a h.1 h.2.1 h.2.2) (λ _ => IL rfl rfl) _
end Go.Bal
