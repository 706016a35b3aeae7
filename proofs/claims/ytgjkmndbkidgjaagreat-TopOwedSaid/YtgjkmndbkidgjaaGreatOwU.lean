/- TopOwed: one more of a crew asks (package crew), by the roster of two. -/
import Derived.Test.YtgjkmndbkidgjaaGreatOwT
set_option linter.unusedVariables false
set_option linter.unusedSimpArgs false
set_option maxRecDepth 8000
namespace Go.Bal
open Go Go.Sym Go.Proofs
structure AkS where
 a : List Int
 h0 : Int -> Bool
 h1 : Int -> Bool
 r : DVal
def mtB (m : Int -> Bool) : AObj := .kmap (.int .i64) zB m λ n => .v (.bool (m n))
def akM (s : AkS) : List (Nat × AObj) := [(102, .box [.d s.r]), (103, .box [.own 104 1 0 2]), (104, .row 1 2 λ i => BM (gD s.a i)), (105, .box [.own 106 1 0 2]), (106, .box [.mref 107, .mref 108]), (107, mtB s.h0), (108, mtB s.h1)]
def akF : AVal := .fn (.func IF) [] [.bptr 100 0, .bptr 102 0, .bptr 103 0, .bptr 105 0, .bptr 109 0]
def akL (s : AkS) : List (Nat × AObj) := (100, .box [.bptr 101 0]) :: (101, wkO) :: (akM s ++ [(109, .box [akF])])
def akK (s : AkS) : List (Nat × HCell) := (akL s).map λ p => (p.1, .live p.2)
def akR : List Nat := [100, 101, 102, 103, 104, 105, 106, 107, 108, 109]
def xAk (p : Int) : List AVal := [.int p, .bptr 100 0, .bptr 102 0, .bptr 103 0, .bptr 105 0, .bptr 109 0]
def no0 : Int -> Bool := λ _ => false
def is0 : Int -> Bool := λ n => decide (n = 0)
def r00 : DVal := eRfs [⟨0, 0⟩]
def d_ak (H : Heap) (w r a h k : Nat) : Option (One × List (Nat × Nat) × List Nat) := match H w, H a, H h with
 | .live (.box [.bptr wk _]), .live (.box [.own row _ _ _]), .live (.box [.own hb _ _ _]) => match H hb with
  | .live (.box [.mref m0, .mref m1]) => some (default, [(100, w), (101, wk), (102, r), (103, a), (104, row), (105, h), (106, hb), (107, m0), (108, m1), (109, k)], [])
  | _ => none
 | _, _, _ => none
def Y7 : List AVal -> Heap -> Option (One × List (Nat × Nat) × List Nat)
 | [.d (.v (.int .i64 0)), .bptr w _, .bptr r _, .bptr a _, .bptr h _, .bptr k _], H => d_ak H w r a h k
 | _, _ => none
def AYD : List AVal -> Heap -> Option (One × List (Nat × Nat) × List Nat)
 | [.d (.v (.int .i64 1)), .bptr w _, .bptr r _, .bptr a _, .bptr h _, .bptr k _], H => d_ak H w r a h k
 | _, _ => none
noncomputable def itAk : IterAnn := { fn := dY, code := AS dY, live := [1, 2, 3, 4, 5, 6], ann := { base := λ id => 100000 * (id + 1), Γ := Sym.look [(ACZ, C_poss.spec ANC)], E := akR ++ [1000], n := 36, unr := λ id => if id = 1 then 3 else 0, off := λ gs => match gs with
 | [t, _] => t
 | _ => 0 } }
noncomputable def A_ak (Γ : List (FuncId × Sym.Spec)) : Ann := { ann 95 ((rO, C_better.spec ABE) :: (ANW, C3Kx.spec d3Kx) :: Γ) with E := akR, unr := λ id => if id = 9 then 3 else 0, iter := λ g => if g = ML then some itAk else none }
def s_a0 : AkS := ⟨[-1, -1], no0, no0, QF⟩
def s_b0 : AkS := ⟨[0, -1], is0, no0, QF⟩
def AWN (_x : One) : Prop := BB Try.prog (A_ak []) KA (AS KA) (xAk 0) (AK (akL s_a0)) (.d (.tup [])) (akK s_b0) [] []
abbrev AC : Prop := Int.ofNat (0 : Nat) = Int.ofNat (0 : Nat)
abbrev GL : Prop := (2 : Nat) = (2 : Nat)
abbrev jH (i : Nat) : Nat := (gD two.p i).length
abbrev zG (i : Nat) (i1 : Nat) : Int := gD (gD two.p i) i1
abbrev Bp : Prop := ∀ (i : Nat), i < (2 : Nat) -> jH i = jH i /\ ∀ (i_1 : Nat), i_1 < jH i -> zG i i_1 = zG i i_1
abbrev yT (i : Nat) (i1 : Nat) : Int := gD (gD two.s i).o i1
abbrev Dw : Prop := ∀ (i : Nat), i < (2 : Nat) -> (gD two.s i).n = (gD two.s i).n /\ (gD two.s i).o.length = (gD two.s i).o.length /\ ∀ (i_1 : Nat), i_1 < (gD two.s i).o.length -> yT i i_1 = yT i i_1
abbrev IR : Prop := Int.ofNat (1 : Nat) = Int.ofNat (1 : Nat)
abbrev mR : Prop := (0 : Int) <= (0 : Int) /\ (0 : Int) < (↑(2 : Nat) : Int)
abbrev Xf : Int := gD (gD two.p (0 : Nat)) (0 : Nat)
abbrev SA : Prop := (0 : Nat) = (0 : Nat)
abbrev z_ak0_11 : Nat := (0 : Nat) + Int.toNat (0 : Int)
abbrev Wc : Prop := (0 : Int) <= Xf /\ Xf < (↑(2 : Nat) : Int)
theorem BBL (_x : One) : (AWN _x) = ((AC /\ Int.negSucc (0 : Nat) = Int.negSucc (0 : Nat) /\ GL /\ Bp /\ GL /\ Dw /\ IR /\ AC /\ AC /\ AC /\ AC /\ AC /\ AC /\ AC /\
 AC /\ AC /\ AC /\ AC /\ AC /\ IR /\ AC /\ AC /\ AC /\ AC /\ AC /\ AC /\ AC /\ AC /\ AC /\ AC /\ AC /\ AC /\ AC /\ AC /\ AC /\ AC /\
 AC /\ AC /\ AC /\ AC /\ AC /\ AC /\ AC /\ AC /\ AC /\ AC /\ AC /\ AC /\ AC /\ AC /\ AC /\ AC /\ AC /\ AC /\ AC /\ AC /\ AC /\ AC /\
 AC /\ AC /\ AC /\ AC /\ AC /\ AC /\ AC /\ AC /\ AC /\ AC /\ AC /\ AC /\ AC /\ AC /\ AC /\ AC /\ AC /\ AC /\ AC /\ AC /\ AC /\ AC /\
 AC /\ AC /\ AC /\ AC /\ AC /\ AC /\ AC /\ AC /\ AC /\ AC /\ AC /\ AC /\ AC /\ AC /\ AC /\ AC /\ AC /\ AC /\ AC /\ AC /\ AC /\ AC /\
 AC /\ AC /\ AC /\ AC /\ AC /\ AC /\ AC /\ AC /\ AC /\ AC /\ AC /\ AC /\ AC /\ AC /\ AC /\ AC /\ AC /\ AC /\ AC /\ AC /\ AC /\ AC /\
 AC /\ AC /\ AC /\ AC /\ AC /\ AC /\ AC /\ AC /\ AC /\ AC /\ AC /\ AC /\ AC /\ AC /\ AC /\ AC /\ AC /\ AC /\ AC /\ AC /\ AC /\ AC /\
 AC /\ AC /\ AC /\ AC /\ GL /\ Bp /\ GL /\ Dw /\ IR /\ AC /\ AC /\ AC /\ AC /\ AC /\ AC /\ AC /\ AC /\ AC /\ AC /\ AC /\ AC /\ IR /\
 AC /\ AC /\ AC /\ AC /\ AC /\ AC /\ AC /\ AC /\ AC /\ AC /\ AC /\ AC /\ AC /\ AC /\ AC /\ AC /\ AC /\ AC /\ AC /\ AC /\ AC /\ AC /\
 AC /\ AC /\ AC /\ AC /\ AC /\ AC /\ AC /\ AC /\ AC /\ AC /\ AC /\ AC /\ AC /\ AC /\ AC /\ AC /\ AC /\ AC /\ AC /\ AC /\ AC /\ AC /\
 AC /\ AC /\ AC /\ AC /\ AC /\ AC /\ AC /\ AC /\ AC /\ AC /\ AC /\ AC /\ AC /\ AC /\ AC /\ AC /\ AC /\ AC /\ AC /\ AC /\ AC /\ AC /\
 AC /\ AC /\ AC /\ AC /\ AC /\ AC /\ AC /\ AC /\ AC /\ AC /\ AC /\ AC /\ AC /\ AC /\ AC /\ AC /\ AC /\ AC /\ AC /\ AC /\ AC /\ AC /\
 AC /\ AC /\ AC /\ AC /\ AC /\ AC /\ AC /\ AC /\ AC /\ AC /\ AC /\ AC /\ AC /\ AC /\ AC /\ AC /\ AC /\ AC /\ AC /\ AC /\ AC /\ AC /\
 AC /\ AC /\ AC /\ AC /\ AC /\ AC /\ AC /\ AC /\ AC /\ AC /\ AC /\ AC /\ AC /\ AC /\ AC /\ AC /\ AC /\ AC /\ AC /\ AC) /\ ∀ (l : Nat),
 mR /\ mR /\ (AC /\ AC /\ GL /\ Bp /\ GL /\ Dw /\ IR /\ AC /\ AC /\ AC /\ AC /\ AC /\ AC /\ AC /\ AC /\ AC /\ AC /\ AC /\ AC /\ IR /\
 AC /\ AC /\ AC /\ AC /\ AC /\ AC /\ AC /\ AC /\ AC /\ AC /\ AC /\ AC /\ AC /\ AC /\ AC /\ AC /\ AC /\ AC /\ AC /\ AC /\ AC /\ AC /\
 AC /\ AC /\ AC /\ AC /\ AC /\ AC /\ AC /\ AC /\ AC /\ AC /\ AC /\ AC /\ AC /\ AC /\ AC /\ AC /\ AC /\ AC /\ AC /\ AC /\ AC /\ AC /\
 AC /\ AC /\ AC /\ AC /\ AC /\ AC /\ AC /\ AC /\ AC /\ AC /\ AC /\ AC /\ AC /\ AC /\ AC /\ AC /\ AC /\ AC /\ AC /\ AC /\ AC /\ AC /\
 AC /\ AC /\ AC /\ AC /\ AC /\ AC /\ AC /\ AC /\ AC /\ AC /\ AC /\ AC /\ AC /\ AC /\ AC /\ AC /\ AC /\ AC /\ AC /\ AC /\ AC /\ AC /\
 AC /\ AC /\ AC /\ AC /\ AC /\ AC /\ AC /\ AC /\ AC /\ AC /\ AC /\ AC /\ AC /\ AC /\ AC /\ AC /\ AC /\ AC /\ AC /\ AC /\ AC /\ AC /\
 AC /\ AC /\ AC /\ AC /\ AC /\ AC /\ AC /\ AC /\ AC /\ AC /\ AC /\ AC /\ AC /\ AC /\ AC /\ AC /\ AC /\ AC /\ AC /\ AC /\ GL /\ Bp /\
 GL /\ Dw /\ IR /\ AC /\ AC /\ AC /\ AC /\ AC /\ AC /\ AC /\ AC /\ AC /\ AC /\ AC /\ AC /\ IR /\ AC /\ AC /\ AC /\ AC /\ AC /\ AC /\
 AC /\ AC /\ AC /\ AC /\ AC /\ AC /\ AC /\ AC /\ AC /\ AC /\ AC /\ AC /\ AC /\ AC /\ AC /\ AC /\ AC /\ AC /\ AC /\ AC /\ AC /\ AC /\
 AC /\ AC /\ AC /\ AC /\ AC /\ AC /\ AC /\ AC /\ AC /\ AC /\ AC /\ AC /\ AC /\ AC /\ AC /\ AC /\ AC /\ AC /\ AC /\ AC /\ AC /\ AC /\
 AC /\ AC /\ AC /\ AC /\ AC /\ AC /\ AC /\ AC /\ AC /\ AC /\ AC /\ AC /\ AC /\ AC /\ AC /\ AC /\ AC /\ AC /\ AC /\ AC /\ AC /\ AC /\
 AC /\ AC /\ AC /\ AC /\ AC /\ AC /\ AC /\ AC /\ AC /\ AC /\ AC /\ AC /\ AC /\ AC /\ AC /\ AC /\ AC /\ AC /\ AC /\ AC /\ AC /\ AC /\
 AC /\ AC /\ AC /\ AC /\ AC /\ AC /\ AC /\ AC /\ AC /\ AC /\ AC /\ AC /\ AC /\ AC /\ AC /\ AC /\ AC /\ AC /\ AC /\ AC /\ AC /\ AC /\
 AC /\ AC /\ AC /\ AC /\ AC /\ AC /\ AC /\ AC /\ AC /\ AC /\ AC /\ AC /\ AC /\ AC /\ ((0 : Int) = (0 : Int) ∨ (0 : Int) = (1 : Int)) /\ (Xf = (0 : Int) ∨ Xf
 = (1 : Int))) /\ l = l /\ (SA /\ SA /\ AC /\ AC /\ AC /\ AC /\ (0 : Nat) < (4611686018427387904 : Nat) /\ True) /\ (mR /\ z_ak0_11.succ.le (2 : Nat)) /\ Wc /\ (Wc /\ (∀ (n : Int), BU
 s_a0.h0 (0 : Int) n = true -> (0 : Int) <= n /\ n < (64 : Int)) /\ Wc) /\ GL /\ Bp /\ GL /\ Dw /\ IR /\ AC /\ AC /\ AC /\ AC /\ AC /\ AC /\ AC /\ AC /\ AC /\
 AC /\ AC /\ AC /\ IR /\ AC /\ AC /\ AC /\ AC /\ AC /\ AC /\ AC /\ AC /\ AC /\ AC /\ AC /\ AC /\ AC /\ AC /\ AC /\ AC /\ AC /\ AC /\
 AC /\ AC /\ AC /\ AC /\ AC /\ AC /\ AC /\ AC /\ AC /\ AC /\ AC /\ AC /\ AC /\ AC /\ AC /\ AC /\ AC /\ AC /\ AC /\ AC /\ AC /\ AC /\
 AC /\ AC /\ AC /\ AC /\ AC /\ AC /\ AC /\ AC /\ AC /\ AC /\ AC /\ AC /\ AC /\ AC /\ AC /\ AC /\ AC /\ AC /\ AC /\ AC /\ AC /\ AC /\
 AC /\ AC /\ AC /\ AC /\ AC /\ AC /\ AC /\ AC /\ AC /\ AC /\ AC /\ AC /\ AC /\ AC /\ AC /\ AC /\ AC /\ AC /\ AC /\ AC /\ AC /\ AC /\
 AC /\ AC /\ AC /\ AC /\ AC /\ AC /\ AC /\ AC /\ AC /\ AC /\ AC /\ AC /\ AC /\ AC /\ AC /\ AC /\ AC /\ AC /\ AC /\ AC /\ AC /\ AC /\
 AC /\ AC /\ AC /\ AC /\ AC /\ AC /\ AC /\ AC /\ AC /\ AC /\ AC /\ AC /\ AC /\ AC /\ AC /\ AC /\ AC /\ AC /\ AC /\ AC /\ AC /\ AC /\
 AC /\ AC /\ SA /\ (∀ (i : Nat), i < (0 : Nat) -> false = false) /\ SA /\ GL /\ GL /\ (∀ (i : Nat), i < (2 : Nat) -> gD s_b0.a i = bif decide (i = z_ak0_11) then gD (gD two.p (Int.toNat (0 : Int)))
 (Int.toNat (0 : Int)) else gD s_a0.a i) /\ SA /\ GL /\ zB = zB /\ (∀ (n : Int), s_b0.h0 n = BU s_a0.h0 (0 : Int) n) /\ (∀ (n : Int), s_b0.h0 n = bif decide (n = (0 : Int)) then true else s_a0.h0 n) /\ zB = zB /\
 (∀ (n : Int), false = false) /\ ∀ (n : Int), false = false) := by kernel_rfl
def is1 : Int -> Bool := λ n => decide (n = 1)
def s_a2 : AkS := ⟨[-1, 0], is1, no0, r00⟩
def s_b2 : AkS := ⟨[1, 0], is1, is0, r00⟩
def AVQ (_x : One) : Prop := BB Try.prog (A_ak []) KA (AS KA) (xAk 0) (AK (akL s_a2)) (.d (.tup [])) (akK s_b2) [] []
abbrev AA : Prop := Int.ofNat (0 : Nat) = Int.ofNat (0 : Nat)
abbrev EV : Prop := (2 : Nat) = (2 : Nat)
abbrev lR (i : Nat) : Nat := (gD two.p i).length
abbrev E3 (i : Nat) (i1 : Nat) : Int := gD (gD two.p i) i1
abbrev PR : Prop := ∀ (i : Nat), i < (2 : Nat) -> lR i = lR i /\ ∀ (i_1 : Nat), i_1 < lR i -> E3 i i_1 = E3 i i_1
abbrev V2 (i : Nat) (i1 : Nat) : Int := gD (gD two.s i).o i1
abbrev QD : Prop := ∀ (i : Nat), i < (2 : Nat) -> (gD two.s i).n = (gD two.s i).n /\ (gD two.s i).o.length = (gD two.s i).o.length /\ ∀ (i_1 : Nat), i_1 < (gD two.s i).o.length -> V2 i i_1 = V2 i i_1
abbrev EW : Prop := Int.ofNat (1 : Nat) = Int.ofNat (1 : Nat)
abbrev gR : Prop := (0 : Int) <= (0 : Int) /\ (0 : Int) < (↑(2 : Nat) : Int)
abbrev H5 : Prop := (0 : Int) = (0 : Int) ∨ (0 : Int) = (1 : Int)
abbrev sM : List Int := gD two.p (0 : Nat)
abbrev pZ : Int := gD sM (0 : Nat)
abbrev Xj : Prop := (1 : Nat) = (1 : Nat)
abbrev z_ak2_13 : List Rf := [Rf.mk (0 : Int) (0 : Int)]
abbrev Uy (i : Nat) : Rf := gD z_ak2_13 i
abbrev vQ (i : Nat) : Rf := gD (AJ z_ak2_13.length λ (i : Nat) => Uy i) i
abbrev Uf (i : Nat) : Int := (Uy i).p
abbrev Ww (i : Nat) : Int := (Uy i).s
abbrev tE : Prop := ∀ (i : Nat), i < (1 : Nat) -> (vQ i).p = Uf i /\ (vQ i).s = Ww i
abbrev sO : Prop := (1 : Nat) < (4611686018427387904 : Nat) /\ True
abbrev z_ak2_20 : Int := IntKind.i64.wrap ((0 : Int) + (1 : Int))
abbrev ZT : Int := gD sM (1 : Nat)
abbrev z_ak2_22 : Nat := (0 : Nat) + Int.toNat (0 : Int)
abbrev Vn : Prop := (0 : Int) <= ZT /\ ZT < (↑(2 : Nat) : Int)
abbrev pU : Prop := (0 : Nat) = (0 : Nat)
abbrev tT : Prop := ∀ (n : Int), s_b2.h0 n = s_a2.h0 n
theorem AZR (_x : One) : (AVQ _x) = ((AA /\ Int.negSucc (0 : Nat) = Int.negSucc (0 : Nat) /\ EV /\ PR /\ EV /\ QD /\ EW /\ AA /\ AA /\ AA /\ AA /\ AA /\ AA /\ AA /\
 AA /\ AA /\ AA /\ AA /\ AA /\ EW /\ AA /\ AA /\ AA /\ AA /\ AA /\ AA /\ AA /\ AA /\ AA /\ AA /\ AA /\ AA /\ AA /\ AA /\ AA /\ AA /\
 AA /\ AA /\ AA /\ AA /\ AA /\ AA /\ AA /\ AA /\ AA /\ AA /\ AA /\ AA /\ AA /\ AA /\ AA /\ AA /\ AA /\ AA /\ AA /\ AA /\ AA /\ AA /\
 AA /\ AA /\ AA /\ AA /\ AA /\ AA /\ AA /\ AA /\ AA /\ AA /\ AA /\ AA /\ AA /\ AA /\ AA /\ AA /\ AA /\ AA /\ AA /\ AA /\ AA /\ AA /\
 AA /\ AA /\ AA /\ AA /\ AA /\ AA /\ AA /\ AA /\ AA /\ AA /\ AA /\ AA /\ AA /\ AA /\ AA /\ AA /\ AA /\ AA /\ AA /\ AA /\ AA /\ AA /\
 AA /\ AA /\ AA /\ AA /\ AA /\ AA /\ AA /\ AA /\ AA /\ AA /\ AA /\ AA /\ AA /\ AA /\ AA /\ AA /\ AA /\ AA /\ AA /\ AA /\ AA /\ AA /\
 AA /\ AA /\ AA /\ AA /\ AA /\ AA /\ AA /\ AA /\ AA /\ AA /\ AA /\ AA /\ AA /\ AA /\ AA /\ AA /\ AA /\ AA /\ AA /\ AA /\ AA /\ AA /\
 AA /\ AA /\ AA /\ AA /\ EV /\ PR /\ EV /\ QD /\ EW /\ AA /\ AA /\ AA /\ AA /\ AA /\ AA /\ AA /\ AA /\ AA /\ AA /\ AA /\ AA /\ EW /\
 AA /\ AA /\ AA /\ AA /\ AA /\ AA /\ AA /\ AA /\ AA /\ AA /\ AA /\ AA /\ AA /\ AA /\ AA /\ AA /\ AA /\ AA /\ AA /\ AA /\ AA /\ AA /\
 AA /\ AA /\ AA /\ AA /\ AA /\ AA /\ AA /\ AA /\ AA /\ AA /\ AA /\ AA /\ AA /\ AA /\ AA /\ AA /\ AA /\ AA /\ AA /\ AA /\ AA /\ AA /\
 AA /\ AA /\ AA /\ AA /\ AA /\ AA /\ AA /\ AA /\ AA /\ AA /\ AA /\ AA /\ AA /\ AA /\ AA /\ AA /\ AA /\ AA /\ AA /\ AA /\ AA /\ AA /\
 AA /\ AA /\ AA /\ AA /\ AA /\ AA /\ AA /\ AA /\ AA /\ AA /\ AA /\ AA /\ AA /\ AA /\ AA /\ AA /\ AA /\ AA /\ AA /\ AA /\ AA /\ AA /\
 AA /\ AA /\ AA /\ AA /\ AA /\ AA /\ AA /\ AA /\ AA /\ AA /\ AA /\ AA /\ AA /\ AA /\ AA /\ AA /\ AA /\ AA /\ AA /\ AA /\ AA /\ AA /\
 AA /\ AA /\ AA /\ AA /\ AA /\ AA /\ AA /\ AA /\ AA /\ AA /\ AA /\ AA /\ AA /\ AA /\ AA /\ AA /\ AA /\ AA /\ AA /\ AA) /\ ∀ (l : Nat),
 gR /\ gR /\ (AA /\ AA /\ EV /\ PR /\ EV /\ QD /\ EW /\ AA /\ AA /\ AA /\ AA /\ AA /\ AA /\ AA /\ AA /\ AA /\ AA /\ AA /\ AA /\ EW /\
 AA /\ AA /\ AA /\ AA /\ AA /\ AA /\ AA /\ AA /\ AA /\ AA /\ AA /\ AA /\ AA /\ AA /\ AA /\ AA /\ AA /\ AA /\ AA /\ AA /\ AA /\ AA /\
 AA /\ AA /\ AA /\ AA /\ AA /\ AA /\ AA /\ AA /\ AA /\ AA /\ AA /\ AA /\ AA /\ AA /\ AA /\ AA /\ AA /\ AA /\ AA /\ AA /\ AA /\ AA /\
 AA /\ AA /\ AA /\ AA /\ AA /\ AA /\ AA /\ AA /\ AA /\ AA /\ AA /\ AA /\ AA /\ AA /\ AA /\ AA /\ AA /\ AA /\ AA /\ AA /\ AA /\ AA /\
 AA /\ AA /\ AA /\ AA /\ AA /\ AA /\ AA /\ AA /\ AA /\ AA /\ AA /\ AA /\ AA /\ AA /\ AA /\ AA /\ AA /\ AA /\ AA /\ AA /\ AA /\ AA /\
 AA /\ AA /\ AA /\ AA /\ AA /\ AA /\ AA /\ AA /\ AA /\ AA /\ AA /\ AA /\ AA /\ AA /\ AA /\ AA /\ AA /\ AA /\ AA /\ AA /\ AA /\ AA /\
 AA /\ AA /\ AA /\ AA /\ AA /\ AA /\ AA /\ AA /\ AA /\ AA /\ AA /\ AA /\ AA /\ AA /\ AA /\ AA /\ AA /\ AA /\ AA /\ AA /\ EV /\ PR /\
 EV /\ QD /\ EW /\ AA /\ AA /\ AA /\ AA /\ AA /\ AA /\ AA /\ AA /\ AA /\ AA /\ AA /\ AA /\ EW /\ AA /\ AA /\ AA /\ AA /\ AA /\ AA /\
 AA /\ AA /\ AA /\ AA /\ AA /\ AA /\ AA /\ AA /\ AA /\ AA /\ AA /\ AA /\ AA /\ AA /\ AA /\ AA /\ AA /\ AA /\ AA /\ AA /\ AA /\ AA /\
 AA /\ AA /\ AA /\ AA /\ AA /\ AA /\ AA /\ AA /\ AA /\ AA /\ AA /\ AA /\ AA /\ AA /\ AA /\ AA /\ AA /\ AA /\ AA /\ AA /\ AA /\ AA /\
 AA /\ AA /\ AA /\ AA /\ AA /\ AA /\ AA /\ AA /\ AA /\ AA /\ AA /\ AA /\ AA /\ AA /\ AA /\ AA /\ AA /\ AA /\ AA /\ AA /\ AA /\ AA /\
 AA /\ AA /\ AA /\ AA /\ AA /\ AA /\ AA /\ AA /\ AA /\ AA /\ AA /\ AA /\ AA /\ AA /\ AA /\ AA /\ AA /\ AA /\ AA /\ AA /\ AA /\ AA /\
 AA /\ AA /\ AA /\ AA /\ AA /\ AA /\ AA /\ AA /\ AA /\ AA /\ AA /\ AA /\ AA /\ AA /\ AA /\ AA /\ AA /\ AA /\ AA /\ AA /\ AA /\ AA /\
 AA /\ AA /\ AA /\ AA /\ AA /\ AA /\ AA /\ AA /\ AA /\ AA /\ AA /\ AA /\ AA /\ AA /\ H5 /\ (pZ = (0 : Int) ∨ pZ = (1 : Int))) /\ l = l /\ (Xj /\
 tE /\ AA /\ AA /\ AA /\ AA /\ sO) /\ ((0 : Int) <= z_ak2_20 /\ z_ak2_20 < (↑(2 : Nat) : Int)) /\ (AA /\ EW /\ EV /\ PR /\ EV /\ QD /\ EW /\ AA /\ AA /\ AA /\
 AA /\ AA /\ AA /\ AA /\ AA /\ AA /\ AA /\ AA /\ AA /\ EW /\ AA /\ AA /\ AA /\ AA /\ AA /\ AA /\ AA /\ AA /\ AA /\ AA /\ AA /\ AA /\
 AA /\ AA /\ AA /\ AA /\ AA /\ AA /\ AA /\ AA /\ AA /\ AA /\ AA /\ AA /\ AA /\ AA /\ AA /\ AA /\ AA /\ AA /\ AA /\ AA /\ AA /\ AA /\
 AA /\ AA /\ AA /\ AA /\ AA /\ AA /\ AA /\ AA /\ AA /\ AA /\ AA /\ AA /\ AA /\ AA /\ AA /\ AA /\ AA /\ AA /\ AA /\ AA /\ AA /\ AA /\
 AA /\ AA /\ AA /\ AA /\ AA /\ AA /\ AA /\ AA /\ AA /\ AA /\ AA /\ AA /\ AA /\ AA /\ AA /\ AA /\ AA /\ AA /\ AA /\ AA /\ AA /\ AA /\
 AA /\ AA /\ AA /\ AA /\ AA /\ AA /\ AA /\ AA /\ AA /\ AA /\ AA /\ AA /\ AA /\ AA /\ AA /\ AA /\ AA /\ AA /\ AA /\ AA /\ AA /\ AA /\
 AA /\ AA /\ AA /\ AA /\ AA /\ AA /\ AA /\ AA /\ AA /\ AA /\ AA /\ AA /\ AA /\ AA /\ AA /\ AA /\ AA /\ AA /\ AA /\ AA /\ AA /\ AA /\
 AA /\ AA /\ AA /\ AA /\ AA /\ AA /\ AA /\ AA /\ EV /\ PR /\ EV /\ QD /\ EW /\ AA /\ AA /\ AA /\ AA /\ AA /\ AA /\ AA /\ AA /\ AA /\
 AA /\ AA /\ AA /\ EW /\ AA /\ AA /\ AA /\ AA /\ AA /\ AA /\ AA /\ AA /\ AA /\ AA /\ AA /\ AA /\ AA /\ AA /\ AA /\ AA /\ AA /\ AA /\
 AA /\ AA /\ AA /\ AA /\ AA /\ AA /\ AA /\ AA /\ AA /\ AA /\ AA /\ AA /\ AA /\ AA /\ AA /\ AA /\ AA /\ AA /\ AA /\ AA /\ AA /\ AA /\
 AA /\ AA /\ AA /\ AA /\ AA /\ AA /\ AA /\ AA /\ AA /\ AA /\ AA /\ AA /\ AA /\ AA /\ AA /\ AA /\ AA /\ AA /\ AA /\ AA /\ AA /\ AA /\
 AA /\ AA /\ AA /\ AA /\ AA /\ AA /\ AA /\ AA /\ AA /\ AA /\ AA /\ AA /\ AA /\ AA /\ AA /\ AA /\ AA /\ AA /\ AA /\ AA /\ AA /\ AA /\
 AA /\ AA /\ AA /\ AA /\ AA /\ AA /\ AA /\ AA /\ AA /\ AA /\ AA /\ AA /\ AA /\ AA /\ AA /\ AA /\ AA /\ AA /\ AA /\ AA /\ AA /\ AA /\
 AA /\ AA /\ AA /\ AA /\ AA /\ AA /\ AA /\ AA /\ AA /\ AA /\ AA /\ AA /\ AA /\ AA /\ AA /\ AA /\ AA /\ AA /\ AA /\ AA /\ AA /\ AA /\
 AA /\ AA /\ H5 /\ (ZT = (0 : Int) ∨ ZT = (1 : Int))) /\ l = l /\ (Xj /\ tE /\ AA /\ EW /\ AA /\ EW /\ sO) /\ (gR /\ z_ak2_22.succ.le (2 : Nat)) /\ Vn /\
 (Vn /\ (∀ (n : Int), BU s_a2.h1 (0 : Int) n = true -> (0 : Int) <= n /\ n < (64 : Int)) /\ Vn) /\ EV /\ PR /\ EV /\ QD /\ EW /\ AA /\ AA /\ AA /\ AA /\ AA /\ AA /\
 AA /\ AA /\ AA /\ AA /\ AA /\ AA /\ EW /\ AA /\ AA /\ AA /\ AA /\ AA /\ AA /\ AA /\ AA /\ AA /\ AA /\ AA /\ AA /\ AA /\ AA /\ AA /\
 AA /\ AA /\ AA /\ AA /\ AA /\ AA /\ AA /\ AA /\ AA /\ AA /\ AA /\ AA /\ AA /\ AA /\ AA /\ AA /\ AA /\ AA /\ AA /\ AA /\ AA /\ AA /\
 AA /\ AA /\ AA /\ AA /\ AA /\ AA /\ AA /\ AA /\ AA /\ AA /\ AA /\ AA /\ AA /\ AA /\ AA /\ AA /\ AA /\ AA /\ AA /\ AA /\ AA /\ AA /\
 AA /\ AA /\ AA /\ AA /\ AA /\ AA /\ AA /\ AA /\ AA /\ AA /\ AA /\ AA /\ AA /\ AA /\ AA /\ AA /\ AA /\ AA /\ AA /\ AA /\ AA /\ AA /\
 AA /\ AA /\ AA /\ AA /\ AA /\ AA /\ AA /\ AA /\ AA /\ AA /\ AA /\ AA /\ AA /\ AA /\ AA /\ AA /\ AA /\ AA /\ AA /\ AA /\ AA /\ AA /\
 AA /\ AA /\ AA /\ AA /\ AA /\ AA /\ AA /\ AA /\ AA /\ AA /\ AA /\ AA /\ AA /\ AA /\ AA /\ AA /\ AA /\ AA /\ AA /\ AA /\ AA /\ AA /\
 AA /\ AA /\ AA /\ AA /\ AA /\ Xj /\ (∀ (i : Nat), i < (1 : Nat) -> Uf i = Uf i /\ Ww i = Ww i) /\ pU /\ EV /\ EV /\ (∀ (i : Nat), i < (2 : Nat) -> gD s_b2.a i =
 bif decide (i = z_ak2_22) then gD (gD two.p (Int.toNat (0 : Int))) z_ak2_20.toNat else gD s_a2.a i) /\ pU /\ EV /\ zB = zB /\ tT /\ tT /\ zB = zB /\ (∀ (n : Int), s_b2.h1 n = BU s_a2.h1 (0 : Int) n) /\
 ∀ (n : Int), s_b2.h1 n = bif decide (n = (0 : Int)) then true else s_a2.h1 n) := by kernel_rfl
def C_ak0 : Ctr := { α := One, xs := λ _ => xAk 0, L := λ _ => akL s_a0, val := λ _ => .d (.tup []), keep := λ _ => akK s_b0 }
def C_ak2 : Ctr := { α := One, xs := λ _ => xAk 0, L := λ _ => akL s_a2, val := λ _ => .d (.tup []), keep := λ _ => akK s_b2 }
def AXG (_x : One) : Prop := BB Try.prog (A_ak [(IF, C_ak2.spec Y7)]) KA (AS KA) (xAk 1) (AK (akL s_b0)) (.d (.tup [])) (akK s_b2) [] []
abbrev FB : Prop := Int.ofNat (1 : Nat) = Int.ofNat (1 : Nat)
abbrev EH : Prop := (2 : Nat) = (2 : Nat)
abbrev jS (i : Nat) : Nat := (gD two.p i).length
abbrev R3 (i : Nat) (i1 : Nat) : Int := gD (gD two.p i) i1
abbrev WJ : Prop := ∀ (i : Nat), i < (2 : Nat) -> jS i = jS i /\ ∀ (i_1 : Nat), i_1 < jS i -> R3 i i_1 = R3 i i_1
abbrev B6 (i : Nat) (i1 : Nat) : Int := gD (gD two.s i).o i1
abbrev SZ : Prop := ∀ (i : Nat), i < (2 : Nat) -> (gD two.s i).n = (gD two.s i).n /\ (gD two.s i).o.length = (gD two.s i).o.length /\ ∀ (i_1 : Nat), i_1 < (gD two.s i).o.length -> B6 i i_1 = B6 i i_1
abbrev AB : Prop := Int.ofNat (0 : Nat) = Int.ofNat (0 : Nat)
abbrev yH : Prop := (0 : Int) <= (1 : Int)
abbrev E4 : Prop := yH /\ (1 : Int) < (↑(2 : Nat) : Int)
abbrev oS : Prop := (0 : Int) <= (0 : Int)
abbrev oF : Prop := oS /\ (0 : Int) < (↑(2 : Nat) : Int)
abbrev QX : Int := gD (gD two.p (1 : Nat)) (0 : Nat)
abbrev NN : Prop := (0 : Nat) = (0 : Nat)
abbrev z_ak1_14 : Nat := (0 : Nat) + Int.toNat (1 : Int)
abbrev vY : Prop := (0 : Int) <= QX
abbrev NM : Prop := vY /\ QX < (↑(2 : Nat) : Int)
abbrev Ag : Prop := true = true -> vY /\ QX < (↑(12 : Nat) : Int)
abbrev vP : Prop := true = true -> oS /\ (0 : Int) < (↑(12 : Nat) : Int)
abbrev sW : Int := IntKind.i64.wrap ((0 : Int) + (1 : Int))
abbrev z_ak1_20 : Nat := (0 : Nat) + Int.toNat (0 : Int)
abbrev oX : Prop := (0 : Nat) < (1 : Nat)
abbrev rE : Prop := (1 : Nat) = (1 : Nat)
abbrev sA (i : Nat) : Rf := gD [Rf.mk (0 : Int) (0 : Int)] i
abbrev Xh (i : Nat) : Int := (sA i).p
abbrev Vl (i : Nat) : Int := (sA i).s
abbrev qG : Int := gD (gD two.p (Int.toNat (1 : Int))) (Int.toNat (0 : Int))
abbrev qC (n : Int) : Bool := decide (n = (0 : Int))
abbrev rR : Prop := ∀ (n : Int), s_b2.h0 n = s_b2.h0 n
abbrev oE : Prop := ∀ (n : Int), s_b2.h1 n = s_b2.h1 n
theorem AZJ (_x : One) : (AXG _x) = ((FB /\ Int.negSucc (0 : Nat) = Int.negSucc (0 : Nat) /\ EH /\ WJ /\ EH /\ SZ /\ FB /\ AB /\ AB /\ AB /\ AB /\ AB /\ AB /\ AB /\
 AB /\ AB /\ AB /\ AB /\ AB /\ FB /\ AB /\ AB /\ AB /\ AB /\ AB /\ AB /\ AB /\ AB /\ AB /\ AB /\ AB /\ AB /\ AB /\ AB /\ AB /\ AB /\
 AB /\ AB /\ AB /\ AB /\ AB /\ AB /\ AB /\ AB /\ AB /\ AB /\ AB /\ AB /\ AB /\ AB /\ AB /\ AB /\ AB /\ AB /\ AB /\ AB /\ AB /\ AB /\
 AB /\ AB /\ AB /\ AB /\ AB /\ AB /\ AB /\ AB /\ AB /\ AB /\ AB /\ AB /\ AB /\ AB /\ AB /\ AB /\ AB /\ AB /\ AB /\ AB /\ AB /\ AB /\
 AB /\ AB /\ AB /\ AB /\ AB /\ AB /\ AB /\ AB /\ AB /\ AB /\ AB /\ AB /\ AB /\ AB /\ AB /\ AB /\ AB /\ AB /\ AB /\ AB /\ AB /\ AB /\
 AB /\ AB /\ AB /\ AB /\ AB /\ AB /\ AB /\ AB /\ AB /\ AB /\ AB /\ AB /\ AB /\ AB /\ AB /\ AB /\ AB /\ AB /\ AB /\ AB /\ AB /\ AB /\
 AB /\ AB /\ AB /\ AB /\ AB /\ AB /\ AB /\ AB /\ AB /\ AB /\ AB /\ AB /\ AB /\ AB /\ AB /\ AB /\ AB /\ AB /\ AB /\ AB /\ AB /\ AB /\
 AB /\ AB /\ AB /\ AB /\ EH /\ WJ /\ EH /\ SZ /\ FB /\ AB /\ AB /\ AB /\ AB /\ AB /\ AB /\ AB /\ AB /\ AB /\ AB /\ AB /\ AB /\ FB /\
 AB /\ AB /\ AB /\ AB /\ AB /\ AB /\ AB /\ AB /\ AB /\ AB /\ AB /\ AB /\ AB /\ AB /\ AB /\ AB /\ AB /\ AB /\ AB /\ AB /\ AB /\ AB /\
 AB /\ AB /\ AB /\ AB /\ AB /\ AB /\ AB /\ AB /\ AB /\ AB /\ AB /\ AB /\ AB /\ AB /\ AB /\ AB /\ AB /\ AB /\ AB /\ AB /\ AB /\ AB /\
 AB /\ AB /\ AB /\ AB /\ AB /\ AB /\ AB /\ AB /\ AB /\ AB /\ AB /\ AB /\ AB /\ AB /\ AB /\ AB /\ AB /\ AB /\ AB /\ AB /\ AB /\ AB /\
 AB /\ AB /\ AB /\ AB /\ AB /\ AB /\ AB /\ AB /\ AB /\ AB /\ AB /\ AB /\ AB /\ AB /\ AB /\ AB /\ AB /\ AB /\ AB /\ AB /\ AB /\ AB /\
 AB /\ AB /\ AB /\ AB /\ AB /\ AB /\ AB /\ AB /\ AB /\ AB /\ AB /\ AB /\ AB /\ AB /\ AB /\ AB /\ AB /\ AB /\ AB /\ AB /\ AB /\ AB /\
 AB /\ AB /\ AB /\ AB /\ AB /\ AB /\ AB /\ AB /\ AB /\ AB /\ AB /\ AB /\ AB /\ AB /\ AB /\ AB /\ AB /\ AB /\ AB /\ AB) /\ ∀ (l : Nat),
 E4 /\ oF /\ (FB /\ AB /\ EH /\ WJ /\ EH /\ SZ /\ FB /\ AB /\ AB /\ AB /\ AB /\ AB /\ AB /\ AB /\ AB /\ AB /\ AB /\ AB /\ AB /\ FB
 /\ AB /\ AB /\ AB /\ AB /\ AB /\ AB /\ AB /\ AB /\ AB /\ AB /\ AB /\ AB /\ AB /\ AB /\ AB /\ AB /\ AB /\ AB /\ AB /\ AB /\ AB /\ AB
 /\ AB /\ AB /\ AB /\ AB /\ AB /\ AB /\ AB /\ AB /\ AB /\ AB /\ AB /\ AB /\ AB /\ AB /\ AB /\ AB /\ AB /\ AB /\ AB /\ AB /\ AB /\ AB
 /\ AB /\ AB /\ AB /\ AB /\ AB /\ AB /\ AB /\ AB /\ AB /\ AB /\ AB /\ AB /\ AB /\ AB /\ AB /\ AB /\ AB /\ AB /\ AB /\ AB /\ AB /\ AB
 /\ AB /\ AB /\ AB /\ AB /\ AB /\ AB /\ AB /\ AB /\ AB /\ AB /\ AB /\ AB /\ AB /\ AB /\ AB /\ AB /\ AB /\ AB /\ AB /\ AB /\ AB /\ AB
 /\ AB /\ AB /\ AB /\ AB /\ AB /\ AB /\ AB /\ AB /\ AB /\ AB /\ AB /\ AB /\ AB /\ AB /\ AB /\ AB /\ AB /\ AB /\ AB /\ AB /\ AB /\ AB
 /\ AB /\ AB /\ AB /\ AB /\ AB /\ AB /\ AB /\ AB /\ AB /\ AB /\ AB /\ AB /\ AB /\ AB /\ AB /\ AB /\ AB /\ AB /\ AB /\ AB /\ EH /\ WJ
 /\ EH /\ SZ /\ FB /\ AB /\ AB /\ AB /\ AB /\ AB /\ AB /\ AB /\ AB /\ AB /\ AB /\ AB /\ AB /\ FB /\ AB /\ AB /\ AB /\ AB /\ AB /\ AB
 /\ AB /\ AB /\ AB /\ AB /\ AB /\ AB /\ AB /\ AB /\ AB /\ AB /\ AB /\ AB /\ AB /\ AB /\ AB /\ AB /\ AB /\ AB /\ AB /\ AB /\ AB /\ AB
 /\ AB /\ AB /\ AB /\ AB /\ AB /\ AB /\ AB /\ AB /\ AB /\ AB /\ AB /\ AB /\ AB /\ AB /\ AB /\ AB /\ AB /\ AB /\ AB /\ AB /\ AB /\ AB
 /\ AB /\ AB /\ AB /\ AB /\ AB /\ AB /\ AB /\ AB /\ AB /\ AB /\ AB /\ AB /\ AB /\ AB /\ AB /\ AB /\ AB /\ AB /\ AB /\ AB /\ AB /\ AB
 /\ AB /\ AB /\ AB /\ AB /\ AB /\ AB /\ AB /\ AB /\ AB /\ AB /\ AB /\ AB /\ AB /\ AB /\ AB /\ AB /\ AB /\ AB /\ AB /\ AB /\ AB /\ AB
 /\ AB /\ AB /\ AB /\ AB /\ AB /\ AB /\ AB /\ AB /\ AB /\ AB /\ AB /\ AB /\ AB /\ AB /\ AB /\ AB /\ AB /\ AB /\ AB /\ AB /\ AB /\ AB
 /\ AB /\ AB /\ AB /\ AB /\ AB /\ AB /\ AB /\ AB /\ AB /\ AB /\ AB /\ AB /\ AB /\ AB /\ ((1 : Int) = (0 : Int) ∨ (1 : Int) = (1 : Int)) /\ (QX = (0 : Int) ∨
 QX = (1 : Int))) /\ l = l /\ (NN /\ NN /\ FB /\ AB /\ FB /\ AB /\ (0 : Nat) < (4611686018427387904 : Nat) /\ True) /\ (E4 /\ z_ak1_14.succ.le (2 : Nat)) /\ NM /\ (NM /\ (∀ (n :
 Int), BU s_b0.h0 (1 : Int) n = true -> (0 : Int) <= n /\ n < (64 : Int)) /\ NM) /\ (NM /\ Value.bool false = zB /\ Ag /\ vP /\ Ag /\ (true = true -> yH /\ (1 : Int) < (↑(12 : Nat) : Int))) /\
 (NM /\ Value.bool false = zB /\ Ag /\ (true = true -> (0 : Int) <= sW /\ sW < (↑(12 : Nat) : Int)) /\ Ag /\ vP) /\ NM /\ (oF /\ z_ak1_20.succ.le (2 : Nat)) /\ ((True /\ ((0 : Nat) < (0
 : Nat) -> (0 : Nat) = (2 : Nat))) /\ ((1 : Nat) <= (1 : Nat) /\ (oX -> EH)) /\ (false = true -> oX) /\ (1 : Nat) <= (9223372036854775807 : Nat) /\ (16 : Nat) <= (140737488355328 : Nat)) /\ (AB /\ EH /\
 WJ /\ EH /\ SZ /\ FB /\ AB /\ AB /\ AB /\ AB /\ AB /\ AB /\ AB /\ AB /\ AB /\ AB /\ AB /\ AB /\ FB /\ AB /\ AB /\ AB /\ AB /\ AB /\
 AB /\ AB /\ AB /\ AB /\ AB /\ AB /\ AB /\ AB /\ AB /\ AB /\ AB /\ AB /\ AB /\ AB /\ AB /\ AB /\ AB /\ AB /\ AB /\ AB /\ AB /\ AB /\
 AB /\ AB /\ AB /\ AB /\ AB /\ AB /\ AB /\ AB /\ AB /\ AB /\ AB /\ AB /\ AB /\ AB /\ AB /\ AB /\ AB /\ AB /\ AB /\ AB /\ AB /\ AB /\
 AB /\ AB /\ AB /\ AB /\ AB /\ AB /\ AB /\ AB /\ AB /\ AB /\ AB /\ AB /\ AB /\ AB /\ AB /\ AB /\ AB /\ AB /\ AB /\ AB /\ AB /\ AB /\
 AB /\ AB /\ AB /\ AB /\ AB /\ AB /\ AB /\ AB /\ AB /\ AB /\ AB /\ AB /\ AB /\ AB /\ AB /\ AB /\ AB /\ AB /\ AB /\ AB /\ AB /\ AB /\
 AB /\ AB /\ AB /\ AB /\ AB /\ AB /\ AB /\ AB /\ AB /\ AB /\ AB /\ AB /\ AB /\ AB /\ AB /\ AB /\ AB /\ AB /\ AB /\ AB /\ AB /\ AB /\
 AB /\ AB /\ AB /\ AB /\ AB /\ AB /\ AB /\ AB /\ AB /\ AB /\ AB /\ AB /\ AB /\ AB /\ AB /\ rE /\ (∀ (i : Nat), i < (1 : Nat) -> Xh i = (0 : Int) /\
 Vl i = qG) /\ NN /\ EH /\ EH /\ (∀ (i : Nat), i < (2 : Nat) -> gD s_a2.a i = bif decide (i = z_ak1_20) then (-1 : Int) else bif decide (i = z_ak1_14) then qG else gD s_b0.a i) /\ NN /\
 EH /\ zB = zB /\ (∀ (n : Int), s_a2.h0 n = (!qC n && BU s_b0.h0 (1 : Int) n)) /\ (∀ (n : Int), s_a2.h0 n = bif qC n then false else bif decide (n = (1 : Int)) then true else s_b0.h0 n) /\ zB = zB /\ (∀ (n
 : Int), false = false) /\ ∀ (n : Int), false = false) /\ EH /\ WJ /\ EH /\ SZ /\ FB /\ AB /\ AB /\ AB /\ AB /\ AB /\ AB /\ AB /\ AB /\ AB /\ AB /\ AB /\
 AB /\ FB /\ AB /\ AB /\ AB /\ AB /\ AB /\ AB /\ AB /\ AB /\ AB /\ AB /\ AB /\ AB /\ AB /\ AB /\ AB /\ AB /\ AB /\ AB /\ AB /\ AB /\
 AB /\ AB /\ AB /\ AB /\ AB /\ AB /\ AB /\ AB /\ AB /\ AB /\ AB /\ AB /\ AB /\ AB /\ AB /\ AB /\ AB /\ AB /\ AB /\ AB /\ AB /\ AB /\
 AB /\ AB /\ AB /\ AB /\ AB /\ AB /\ AB /\ AB /\ AB /\ AB /\ AB /\ AB /\ AB /\ AB /\ AB /\ AB /\ AB /\ AB /\ AB /\ AB /\ AB /\ AB /\
 AB /\ AB /\ AB /\ AB /\ AB /\ AB /\ AB /\ AB /\ AB /\ AB /\ AB /\ AB /\ AB /\ AB /\ AB /\ AB /\ AB /\ AB /\ AB /\ AB /\ AB /\ AB /\
 AB /\ AB /\ AB /\ AB /\ AB /\ AB /\ AB /\ AB /\ AB /\ AB /\ AB /\ AB /\ AB /\ AB /\ AB /\ AB /\ AB /\ AB /\ AB /\ AB /\ AB /\ AB /\
 AB /\ AB /\ AB /\ AB /\ AB /\ AB /\ AB /\ AB /\ AB /\ AB /\ AB /\ AB /\ AB /\ AB /\ AB /\ AB /\ AB /\ AB /\ AB /\ AB /\ AB /\ AB /\
 rE /\ (∀ (i : Nat), i < (1 : Nat) -> Xh i = Xh i /\ Vl i = Vl i) /\ NN /\ EH /\ EH /\ (∀ (i : Nat), i < (2 : Nat) -> gD s_b2.a i = gD s_b2.a i) /\ NN /\ EH /\ zB = zB /\
 rR /\ rR /\ zB = zB /\ oE /\ oE) := by kernel_rfl
def C_ak1 : Ctr := { α := One, xs := λ _ => xAk 1, L := λ _ => akL s_b0, val := λ _ => .d (.tup []), keep := λ _ => akK s_b2 }
theorem ak0 {n : Int} (h : BU s_a0.h0 0 n = true) : 0 <= n /\ n < 64 := by
 simp [BU, s_a0, no0] at h; omega
theorem ak1 {n : Int} (h : BU s_b0.h0 1 n = true) : 0 <= n /\ n < 64 := by
 simp [BU, s_b0, is0] at h; omega
theorem ak2 {n : Int} (h : BU s_a2.h1 0 n = true) : 0 <= n /\ n < 64 := by
 simp [BU, s_a2, no0] at h; omega
theorem BIR (x : One) : AWN x := by
 rw [BBL]; delta AC GL jH zG Bp yT Dw IR mR Xf SA z_ak0_11 Wc; simp only [BF, eq_self, implies_true, and_self, true_and, and_true, true_implies, forall_const, decide_eq_true_eq, decide_eq_false_iff_not, Int.toNat_natCast, dSpan_eSpan, dInt_eInt, AV, BH, BJ, BC, AZ, AX, AY, Nat.zero_add, Int.zero_sub, Nat.le_eq, Nat.succ_eq_add_one, Nat.add_one_le_iff, Bool.not_eq_true', Bool.not_eq_false', rng_length, AT, AP]
 repeat' apply And.intro
 all_goals first
  | decide +kernel
  | rfl
  | exact λ n => rfl
  | exact λ n hn => ak0 hn
  | exact λ n hn => ak1 hn
  | exact λ n hn => ak2 hn
  | (intro n; simp only [BU, s_a0, s_b0, s_a2, s_b2, no0, is0, is1]; by_cases h0 : n = 0 <;> by_cases h1 : n = 1 <;> simp [h0, h1] <;> omega)
  | (intro n; simp only [BU, s_a0, s_b0, s_a2, s_b2, no0, is0, is1]; by_cases h0 : n = 0 <;> by_cases h1 : n = 1 <;> simp_all)
theorem BIQ (x : One) : AVQ x := by
 rw [AZR]; delta AA EV lR E3 PR V2 QD EW gR H5 sM pZ Xj z_ak2_13 Uy vQ Uf Ww tE sO z_ak2_20 ZT z_ak2_22 Vn pU tT; simp only [BF, eq_self, implies_true, and_self, true_and, and_true, true_implies, forall_const, decide_eq_true_eq, decide_eq_false_iff_not, Int.toNat_natCast, dSpan_eSpan, dInt_eInt, AV, BH, BJ, BC, AZ, AX, AY, Nat.zero_add, Int.zero_sub, Nat.le_eq, Nat.succ_eq_add_one, Nat.add_one_le_iff, Bool.not_eq_true', Bool.not_eq_false', rng_length, AT, AP]
 repeat' apply And.intro
 all_goals first
  | decide +kernel
  | rfl
  | exact λ n => rfl
  | exact λ n hn => ak0 hn
  | exact λ n hn => ak1 hn
  | exact λ n hn => ak2 hn
  | (intro n; simp only [BU, s_a0, s_b0, s_a2, s_b2, no0, is0, is1]; by_cases h0 : n = 0 <;> by_cases h1 : n = 1 <;> simp [h0, h1] <;> omega)
  | (intro n; simp only [BU, s_a0, s_b0, s_a2, s_b2, no0, is0, is1]; by_cases h0 : n = 0 <;> by_cases h1 : n = 1 <;> simp_all)
theorem BJE (x : One) : AXG x := by
 rw [AZJ]; delta FB EH jS R3 WJ B6 SZ AB yH E4 oS oF QX NN z_ak1_14 vY NM Ag vP sW z_ak1_20 oX rE sA Xh Vl qG qC rR oE; simp only [BF, eq_self, implies_true, and_self, true_and, and_true, true_implies, forall_const, decide_eq_true_eq, decide_eq_false_iff_not, Int.toNat_natCast, dSpan_eSpan, dInt_eInt, AV, BH, BJ, BC, AZ, AX, AY, Nat.zero_add, Int.zero_sub, Nat.le_eq, Nat.succ_eq_add_one, Nat.add_one_le_iff, Bool.not_eq_true', Bool.not_eq_false', rng_length, AT, AP]
 repeat' apply And.intro
 all_goals first
  | decide +kernel
  | rfl
  | exact λ n => rfl
  | exact λ n hn => ak0 hn
  | exact λ n hn => ak1 hn
  | exact λ n hn => ak2 hn
  | (intro n; simp only [BU, s_a0, s_b0, s_a2, s_b2, no0, is0, is1]; by_cases h0 : n = 0 <;> by_cases h1 : n = 1 <;> simp [h0, h1] <;> omega)
  | (intro n; simp only [BU, s_a0, s_b0, s_a2, s_b2, no0, is0, is1]; by_cases h0 : n = 0 <;> by_cases h1 : n = 1 <;> simp_all)
theorem AYP : AR Try.prog IF (C_ak0.spec Y7) := EX C_ak0 (λ _ => A_ak []) [] [] Iw (λ _ => by kernel_rfl) (λ _ => AH aQ (AH ANV AM)) (λ (x : One) _ => BIR x) (λ _ => AQR ML itAk rfl rfl (AH S9 AM) Ol (by kernel_rfl) (by kernel_rfl)) _
theorem BBC : AR Try.prog IF (C_ak2.spec Y7) := EX C_ak2 (λ _ => A_ak []) [] [] Iw (λ _ => by kernel_rfl) (λ _ => AH aQ (AH ANV AM)) (λ (x : One) _ => BIQ x) (λ _ => AQR ML itAk rfl rfl (AH S9 AM) Ol (by kernel_rfl) (by kernel_rfl)) _
theorem BAF : AR Try.prog IF (C_ak1.spec AYD) := EX C_ak1 (λ _ => A_ak [(IF, C_ak2.spec Y7)]) [] [] Iw (λ _ => by kernel_rfl) (λ _ => AH aQ (AH ANV (AH BBC AM))) (λ (x : One) _ => BJE x) (λ _ => AQR ML itAk rfl rfl (AH S9 AM) Ol (by kernel_rfl) (by kernel_rfl)) _
end Go.Bal
