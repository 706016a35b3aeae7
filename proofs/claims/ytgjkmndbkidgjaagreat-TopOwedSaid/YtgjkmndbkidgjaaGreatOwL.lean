/- TopOwed: lanes that are full. -/
import Derived.Test.YtgjkmndbkidgjaaGreatOwK
set_option linter.unusedVariables false
set_option linter.unusedSimpArgs false
namespace Go.Bal
open Go Go.Sym Go.Proofs
structure LV where
 f : Nat
 l : List Wk
 k : Int
 w : Int
def LV.v (a : LV) : List Int := sng a.k
def rm0 : Rm := ⟨λ _ => false, λ _ => 0, λ _ => 0⟩
def AVV (a : LV) (i j : Nat) : Bool := bif gD (gD a.l i).of j != a.w then (bif (i : Int) == a.w then true else innM a.v a.w i) else false
def rmJ (a : LV) (i : Nat) (r : Rm) : Nat -> Rm
 | 0 => r
 | j + 1 => bif AVV a i j then (rmJ a i r j).put (cod (2 * gD (gD a.l i).of j + 1) (2 * i)) 30 else rmJ a i r j
def rmB (a : LV) (i : Nat) (r : Rm) : Rm := bif innM a.v a.w i then r.put (cod (2 * i) (2 * i + 1)) 1 else r
def Tf (a : LV) : Nat -> Rm
 | 0 => rm0
 | i + 1 => rmJ a i (rmB a i (Tf a i)) (gD a.l i).of.length
def noM : Int -> Bool := λ _ => false
def laG (a : LV) (r : Rm) : Option (Bool × GS) := wV a.l.length a.w a.f (2 * a.k + 1) ⟨r, noM⟩
def la1 (a : LV) : GS := ((laG a (Tf a a.l.length)).getD default).2
def wM (a : LV) : GS := ((laG a (la1 a).r).getD default).2
structure LaOk (a : LV) : Prop where
 w : WksOk a.l
 inn : 0 <= a.k /\ a.k < a.l.length
 wo : 0 <= a.w /\ a.w < a.l.length
 one' : laG a (Tf a a.l.length) = some (true, la1 a)
 two : laG a (la1 a).r = some (false, wM a)
def lnX (a : LV) (p r m : Nat) : AObj := .box [.bptr p 0, .d (AF a.v), .int a.w, .mref r, .mref m]
def d_LV (fu : Nat) : List AVal -> Heap -> Option (LV × List (Nat × Nat) × List Nat)
 | [.bptr p _, y, .d w], H => match JC H p, YY y H with
  | some l, some (v, f) => some (⟨fu, l, gD v 0, CR w⟩, [(100, p)], f)
  | _, _ => none
 | _, _ => none
def C_lanes : Ctr := { α := LV, xs := λ a => [.bptr 100 0, .d (AF a.v), .int a.w], L := λ a => [(100, HY a.l)], val := λ _ => .bptr 0 0, keep := λ a => [(100, .live (HY a.l)), (0, .live (lnX a 100 2 3)), (2, .live (rmO (wM a).r)), (3, .live (mtO (wM a).m))], pre := λ a => [LaOk a] }
def laH (a : LV) (r : Rm) (m : Int -> Bool) : List (Nat × HCell) := [(100, .live (HY a.l)), (201, .live (lnX a 100 202 203)), (202, .live (rmO r)), (203, .live (mtO m))]
def la3 (a : LV) : Shape := { α := Nat, dflt := 0, T := λ i => ⟨[(1, .d (AF a.v)), (2, .int a.w), (7, .bptr 201 0), (25, .d (JZ a.l)), (26, .int a.l.length), (27, .int i)], laH a (Tf a i) noM⟩, inv := λ i => i <= a.l.length, meas := λ i => 40 - i, first := [(201, 2096), (202, 2048), (203, 2064)] }
def la8 (a : LV) (m : Nat) : Shape := { α := NJ, dflt := default, T := λ s => ⟨[(1, .d (AF a.v)), (2, .int a.w), (7, .bptr 201 0), (8, .int s.i), (25, .d (JZ a.l)), (26, .int a.l.length), (27, .int s.i), (46, .d (AF (gD a.l s.i).of)), (47, .int (gD a.l s.i).of.length), (48, .int s.j)], laH a (rmJ a s.i (rmB a s.i (Tf a s.i)) s.j) noM⟩, inv := λ s => s.i < a.l.length /\ 40 - s.i = m /\ s.j <= (gD a.l s.i).of.length, meas := λ s => (gD a.l s.i).of.length - s.j }
structure LT where
 t : Bool
 deriving Inhabited
def X2 (a : LV) (t : Bool) : Rm := bif t then (la1 a).r else Tf a a.l.length
def laM (a : LV) (t : Bool) : Int -> Bool := bif t then (la1 a).m else noM
def la17 (a : LV) : Shape := { α := LT, dflt := default, T := λ t => ⟨[(7, .bptr 201 0), (13, .int a.k), (77, .d (AF a.v)), (78, .int 1), (79, .int 0)], laH a (X2 a t.t) (laM a t.t)⟩, inv := λ _ => True, meas := λ t => bif t.t then 1 else 2 }
def AIO (a : LV) : Ann := { ann 95 [(mS, C_inner.spec rS), (AAH, (wI a.f).spec rS)] with E := [100], md := λ id => if id = 1 then some (λ k => if k = 4 then 1 else 0) else none, unr := λ id => if id = 15 then 2 else 0, loops := λ id => if id = 3 then some [la3 a] else if id = 17 then some [la17 a] else none, inner := λ gs id => if id = 8 then match gs with
  | m :: _ => some [la8 a m]
  | [] => none
 else none }
def AIX (a : LV) : Prop := BB Try.prog (AIO a) D2 (AS D2) (C_lanes.xs a) (AK (C_lanes.L a)) (C_lanes.val a) (C_lanes.keep a) [(0, 201), (2, 202), (3, 203)] []
abbrev DT (a : LV) : Prop := a.v.length = a.v.length
abbrev DR (a : LV) : Prop := ∀ (i : Nat), i < a.v.length -> gD a.v i = gD a.v i
abbrev EI (a : LV) : Prop := a.l.length = a.l.length
abbrev Em (i : Nat) (a : LV) (i1 : Nat) : Prop := i < (gD a.l i1).of.length
abbrev KJ (a : LV) (i : Nat) (i1 : Nat) : Int := gD (gD a.l i).of i1
abbrev EG (a : LV) : Prop := ∀ (i : Nat), i < a.l.length -> (gD a.l i).of.length = (gD a.l i).of.length /\ (∀ (i_1 : Nat), Em i_1 a i -> KJ a i i_1 = KJ a i i_1) /\ (gD a.l i).ba = (gD a.l i).ba /\
 (gD a.l i).mi = (gD a.l i).mi
abbrev KH (a : LV) : Prop := (↑a.l.length : Int) = (↑a.l.length : Int)
abbrev Zi : Prop := (∀ (n : Int), false = false) /\ ∀ (n : Int), false = false
abbrev aC (a : Nat) (a1 : LV) : Prop := (↑a : Int) < (↑a1.l.length : Int)
abbrev MO (a : LV) : List Int := AJ a.v.length λ (i : Nat) => gD a.v i
abbrev ON (a : LV) : Nat := (MO a).length
abbrev VS (a : LV) : Prop := ON a = a.v.length
abbrev Qm (a : LV) (i : Nat) : Int := gD (MO a) i
abbrev VI (a : LV) : Prop := ∀ (i : Nat), i < ON a -> Qm a i = gD a.v i
abbrev VF (a : LV) : List Wk := AJ a.l.length λ (i : Nat) => BE (BK (gD a.l i))
abbrev TN (a : LV) : Nat := (VF a).length
abbrev WO (a : LV) : Prop := TN a = a.l.length
abbrev VN (a : LV) (i : Nat) : Wk := gD (VF a) i
abbrev Nr (a : LV) (i : Nat) : List Int := (VN a i).of
abbrev UN (a : LV) (i : Nat) : Nat := (Nr a i).length
abbrev Pb (a : LV) (i : Nat) (i1 : Nat) : Int := gD (Nr a i) i1
abbrev Pf (a : LV) (i : Nat) : Int := (VN a i).ba
abbrev Kc (a : LV) (i : Nat) : Int := (VN a i).mi
abbrev XP (a : LV) : Prop := ∀ (i : Nat), i < TN a -> UN a i = (gD a.l i).of.length /\ (∀ (i_1 : Nat), i_1 < UN a i -> Pb a i i_1 = KJ a i i_1) /\ Pf a i = (gD a.l i).ba
 /\ Kc a i = (gD a.l i).mi
abbrev Mi (a : LV) (a1 : Nat) : Prop := ∀ (n : Int), (Tf a a1).h n = (Tf a a1).h n
abbrev Fo (a : LV) (a1 : Nat) : Prop := ∀ (n : Int), (Tf a a1).s n = (Tf a a1).s n
abbrev Pv (a : LV) (a1 : Nat) : Prop := ∀ (n : Int), (Tf a a1).g n = (Tf a a1).g n
abbrev Ps (a : LV) : Prop := a.v.length = ON a
abbrev Jc (a : LV) : Prop := ∀ (i : Nat), i < a.v.length -> gD a.v i = Qm a i
abbrev Qr (a : LV) : Prop := a.l.length = TN a
abbrev Qo (a : LV) : Prop := ∀ (i : Nat), i < a.l.length -> (gD a.l i).of.length = UN a i /\ (∀ (i_1 : Nat), Em i_1 a i -> KJ a i i_1 = Pb a i i_1) /\ (gD a.l i).ba = Pf a i /\
 (gD a.l i).mi = Kc a i
abbrev Gm (a : LV) : Prop := zB = zB /\ (∀ (n : Int), false = false) /\ (∀ (n : Int), false = false) /\ ON a = (1 : Nat)
abbrev Pd (a : Nat) : Int := IntKind.i64.wrap ((2 : Int) * (↑a : Int))
abbrev VX (a : Nat) : Int := IntKind.i64.wrap (Pd a + (1 : Int))
abbrev OZ (a : NJ) (a1 : Nat) : Prop := (↑a.i : Int) = (↑a1 : Int)
abbrev ER (a : LV) (a1 : NJ) : Nat := (gD a.l a1.i).of.length
abbrev Ib (a : LV) (a1 : NJ) (a2 : Nat) : Prop := ER a a1 = (gD a.l a2).of.length
abbrev Sb (i : Nat) (a : LV) (a1 : NJ) : Prop := i < ER a a1
abbrev XQ (a : LV) (a1 : NJ) (i : Nat) : Int := gD (gD a.l a1.i).of i
abbrev Nl (a : LV) (a1 : NJ) (a2 : Nat) : Prop := ∀ (i : Nat), Sb i a a1 -> XQ a a1 i = KJ a a2 i
abbrev Mw (a : LV) (a1 : NJ) (a2 : Nat) : Prop := (↑(ER a a1) : Int) = (↑(gD a.l a2).of.length : Int)
abbrev Hz (a : NJ) : Prop := (↑a.j : Int) = (0 : Int)
abbrev IA (a : LV) (a1 : NJ) : Rm := rmJ a a1.i (rmB a a1.i (Tf a a1.i)) a1.j
abbrev GD (a : LV) (a1 : NJ) (n : Int) : Bool := (IA a a1).h n
abbrev XI (a : Nat) : Int := Pd a * (4294967296 : Int) + VX a
abbrev GF (a : LV) (a1 : NJ) (n : Int) : Int := (IA a a1).s n
abbrev FM (a : LV) (a1 : NJ) (n : Int) : Int := (IA a a1).g n
abbrev JS : Prop := zB = zB /\ Zi
abbrev TJ (a : Nat) : Nat := (40 : Nat) - a
abbrev NC (a : NJ) (a1 : LV) (a2 : Nat) : Prop := a.i < a1.l.length /\ (40 : Nat) - a.i = TJ a2 /\ a.j <= ER a1 a
abbrev Ma (a : NJ) (a1 : LV) : Prop := (↑a.j : Int) < (↑(ER a1 a) : Int)
abbrev Im (a : LV) (a1 : NJ) : Int := gD (gD a.l a1.i).of a1.j
abbrev Nf (a : LV) (a1 : NJ) : Bool := Im a a1 != a.w
abbrev Iv (a : NJ) (a1 : LV) : Bool := (↑a.i : Int) == a1.w
abbrev Ji (a : LV) (a1 : NJ) : Prop := ∀ (n : Int), GD a a1 n = GD a a1 n
abbrev Gc (a : LV) (a1 : NJ) : Prop := ∀ (n : Int), GF a a1 n = GF a a1 n
abbrev Oq (a : LV) (a1 : NJ) : Prop := ∀ (n : Int), FM a a1 n = FM a a1 n
abbrev SQ (a : NJ) : Int := IntKind.i64.wrap ((2 : Int) * (↑a.i : Int))
abbrev OY (a : NJ) (a1 : NJ) : Prop := (↑a.i : Int) = (↑a1.i : Int)
abbrev Hp (a : LV) (a1 : NJ) (a2 : NJ) : Prop := ER a a1 = ER a a2
abbrev Fu (a : LV) (a1 : NJ) (a2 : NJ) : Prop := ∀ (i : Nat), Sb i a a1 -> XQ a a1 i = XQ a a2 i
abbrev Sa (a : LV) (a1 : NJ) (a2 : NJ) : Prop := (↑(ER a a1) : Int) = (↑(ER a a2) : Int)
abbrev Hk (a : NJ) (a1 : NJ) : Prop := (↑a.j : Int) = IntKind.i64.wrap ((↑a1.j : Int) + (1 : Int))
abbrev XJ (a : LV) (a1 : NJ) : Int := IntKind.i64.wrap (IntKind.i64.wrap ((2 : Int) * Im a a1) + (1 : Int)) * (4294967296 : Int) + SQ a1
abbrev Hi (a : LV) (a1 : NJ) : Nat := ER a a1 - a1.j
abbrev Jx (a : NJ) (a1 : LV) (a2 : Nat) (a3 : NJ) : Prop := NC a a1 a2 /\ Hi a1 a < Hi a1 a3
abbrev Hl (a : LV) (a1 : Nat) : Prop := ∀ (a_1 : NJ), NC a_1 a a1 -> bif decide (Ma a_1 a) then ((0 : Int) <= (↑a_1.j : Int) /\ Ma a_1 a) /\ ((Nf a a_1 && !Iv a_1 a) = true ->
 (↑a_1.i : Int) = (↑a_1.i : Int) /\ VS a /\ VI a /\ a.w = a.w /\ WO a /\ XP a /\ zI = zI /\ Ji a a_1 /\ Gc a a_1 /\ Oq a a_1 /\ zB = zB /\ (∀ (n : Int), false = false) /\ (∀ (n
 : Int), false = false) /\ Ps a /\ Jc a /\ a.w = a.w /\ Qr a /\ Qo a /\ zI = zI /\ Ji a a_1 /\ Gc a a_1 /\ Oq a a_1 /\ Gm a) /\ bif bif Nf a a_1 then bif
 Iv a_1 a then true else innM (MO a) a.w (↑a_1.i : Int) else false then ((0 : Int) <= SQ a_1 /\ ((4294967296 : Int) - (SQ a_1 + (1 : Int))).NonNeg) /\ ∃ (a_3 : NJ), (DT a /\ DR a /\
 a.w = a.w /\ OY a_3 a_1 /\ EI a /\ EG a /\ KH a /\ OY a_3 a_1 /\ Hp a a_3 a_1 /\ Fu a a_3 a_1 /\ Sa a a_3 a_1 /\ Hk a_3 a_1 /\ EI a /\ EG a /\
 DT a /\ DR a /\ a.w = a.w /\ zI = zI /\ (∀ (n : Int), GD a a_3 n = BU (IA a a_1).h (XJ a a_1) n) /\ (∀ (n : Int), GF a a_3 n = ME (IA a a_1).h (IA a a_1).s
 (XJ a a_1) n) /\ (∀ (n : Int), FM a a_3 n = bif decide (n = XJ a a_1) then (30 : Int) else FM a a_1 n) /\ JS) /\ Jx a_3 a a1 a_1 else ∃ (a_3 : NJ), (DT a /\ DR a
 /\ a.w = a.w /\ OY a_3 a_1 /\ EI a /\ EG a /\ KH a /\ OY a_3 a_1 /\ Hp a a_3 a_1 /\ Fu a a_3 a_1 /\ Sa a a_3 a_1 /\ Hk a_3 a_1 /\ EI a /\ EG a /\
 DT a /\ DR a /\ a.w = a.w /\ zI = zI /\ (∀ (n : Int), GD a a_3 n = GD a a_1 n) /\ (∀ (n : Int), GF a a_3 n = GF a a_1 n) /\ (∀ (n : Int), FM a a_3 n = FM a a_1 n) /\
 JS) /\ Jx a_3 a a1 a_1 else ∃ (a_3 : Nat), (DT a /\ DR a /\ a.w = a.w /\ EI a /\ EG a /\ KH a /\ (↑a_3 : Int) = IntKind.i64.wrap ((↑a_1.i : Int) + (1 : Int)) /\ EI a /\
 EG a /\ DT a /\ DR a /\ a.w = a.w /\ zI = zI /\ (∀ (n : Int), (Tf a a_3).h n = GD a a_1 n) /\ (∀ (n : Int), (Tf a a_3).s n = GF a a_1 n) /\ (∀ (n : Int), (Tf a a_3).g n = FM a a_1
 n) /\ JS) /\ a_3.le a.l.length /\ TJ a_3 < TJ a1
abbrev Jy : Prop := Int.ofNat (0 : Nat) = Int.ofNat (0 : Nat)
abbrev Lf (a : LV) (a1 : LT) : Prop := ∀ (n : Int), laM a a1.t n = false
abbrev UE (a : LV) : Int := IntKind.i64.wrap (IntKind.i64.wrap ((2 : Int) * a.k) + (1 : Int))
abbrev XN (a : LV) (a1 : LT) : LnI := LnI.mk (Ln.mk (VF a) (MO a) a.w (Rm.mk (X2 a a1.t).h (λ (n : Int) => (X2 a a1.t).g n) (X2 a a1.t).s) λ (x : Int) => false) (UE a)
abbrev Qq (a : LV) (a1 : LT) : Bool × GS := LnI.res a.f (XN a a1)
abbrev KM (a : LV) (a1 : LT) : Ln := (XN a a1).with (Qq a a1).snd
abbrev Gq (a : LV) (a1 : LT) : List Wk := (KM a a1).l
abbrev Jt (a : LV) (a1 : LT) : Prop := a.l.length = (Gq a a1).length
abbrev VT (a : LV) (a1 : LT) (i : Nat) : Wk := gD (Gq a a1) i
abbrev Ny (a : LV) (a1 : LT) (i : Nat) : List Int := (VT a a1 i).of
abbrev Rh (a : LV) (a1 : LT) : Prop := ∀ (i : Nat), i < a.l.length -> (gD a.l i).of.length = (Ny a a1 i).length /\ (∀ (i_1 : Nat), Em i_1 a i -> KJ a i i_1 = gD (Ny a a1 i) i_1) /\ (gD
 a.l i).ba = (VT a a1 i).ba /\ (gD a.l i).mi = (VT a a1 i).mi
abbrev Fp (a : LV) (a1 : LT) : List Int := (KM a a1).v
abbrev Ic (a : LV) (a1 : LT) : Prop := a.v.length = (Fp a a1).length
abbrev Gf (a : LV) (a1 : LT) : Prop := ∀ (i : Nat), i < a.v.length -> gD a.v i = gD (Fp a a1) i
abbrev Fj (a : LV) (a1 : LT) : Prop := a.w = (KM a a1).w
abbrev VR (a : LV) (a1 : LT) : Rm := (KM a a1).r
abbrev Oc (a : LV) (a1 : LT) (n : Int) : Bool := (VR a a1).h n
abbrev Nc (a : LV) (a1 : LT) (n : Int) : Int := (VR a a1).s n
abbrev Pk (a : LV) (a1 : LT) (n : Int) : Int := (VR a a1).g n
abbrev Hw (a : LV) (a1 : LT) (n : Int) : Bool := (KM a a1).m n
abbrev Hx (a : LV) (a1 : LT) : Prop := ∀ (n : Int), (wM a).m n = Hw a a1 n
abbrev Rx (a : LV) (a1 : LT) (a2 : LT) : Prop := ∀ (n : Int), laM a a1.t n = Hw a a2 n
abbrev Qc (a : LT) : Nat := bif a.t then (1 : Nat) else (2 : Nat)
theorem ANS (a : LV) : (AIX a) = ((∃ (a_1 : Nat), (DT a /\ DR a /\ a.w = a.w /\ EI a /\ EG a /\ KH a /\ (↑a_1 : Int) = (0 : Int) /\ EI a /\ EG a /\ DT a /\ DR
 a /\ a.w = a.w /\ zI = Value.int IntKind.i64 (0 : Int) /\ (∀ (n : Int), (Tf a a_1).h n = false) /\ (∀ (n : Int), (Tf a a_1).s n = (0 : Int)) /\ (∀ (n : Int), (Tf a a_1).g n = (0 : Int)) /\ zB = Value.bool false /\ Zi)
 /\ a_1.le a.l.length) /\ ∀ (a_1 : Nat), a_1.le a.l.length -> bif decide (aC a_1 a) then ((0 : Int) <= (↑a_1 : Int) /\ aC a_1 a) /\ ((↑a_1 : Int) = (↑a_1 : Int) /\ VS a /\ VI a /\ a.w = a.w /\
 WO a /\ XP a /\ zI = zI /\ Mi a a_1 /\ Fo a a_1 /\ Pv a a_1 /\ zB = zB /\ (∀ (n : Int), false = false) /\ (∀ (n : Int), false = false) /\ Ps a /\ Jc a /\ a.w = a.w /\
 Qr a /\ Qo a /\ zI = zI /\ Mi a a_1 /\ Fo a a_1 /\ Pv a a_1 /\ Gm a) /\ bif innM (MO a) a.w (↑a_1 : Int) then ((0 : Int) <= VX a_1 /\ ((4294967296 : Int) -
 (VX a_1 + (1 : Int))).NonNeg) /\ (∃ (a_3 : NJ), (DT a /\ DR a /\ a.w = a.w /\ OZ a_3 a_1 /\ EI a /\ EG a /\ KH a /\ OZ a_3 a_1 /\ Ib a a_3 a_1 /\ Nl a a_3
 a_1 /\ Mw a a_3 a_1 /\ Hz a_3 /\ EI a /\ EG a /\ DT a /\ DR a /\ a.w = a.w /\ zI = zI /\ (∀ (n : Int), GD a a_3 n = BU (Tf a a_1).h (XI a_1) n) /\ (∀ (n : Int),
 GF a a_3 n = ME (Tf a a_1).h (Tf a a_1).s (XI a_1) n) /\ (∀ (n : Int), FM a a_3 n = bif decide (n = XI a_1) then (1 : Int) else (Tf a a_1).g n) /\ JS) /\ NC a_3 a a_1) /\
 Hl a a_1 else (∃ (a_3 : NJ), (DT a /\ DR a /\ a.w = a.w /\ OZ a_3 a_1 /\ EI a /\ EG a /\ KH a /\ OZ a_3 a_1 /\ Ib a a_3 a_1 /\ Nl a a_3 a_1 /\ Mw a
 a_3 a_1 /\ Hz a_3 /\ EI a /\ EG a /\ DT a /\ DR a /\ a.w = a.w /\ zI = zI /\ (∀ (n : Int), GD a a_3 n = (Tf a a_1).h n) /\ (∀ (n : Int), GF a a_3 n = (Tf a a_1).s n) /\ (∀ (n :
 Int), FM a a_3 n = (Tf a a_1).g n) /\ JS) /\ NC a_3 a a_1) /\ Hl a a_1 else ((0 : Int) <= (0 : Int) /\ (0 : Int) < (↑a.v.length : Int)) /\ (∃ (a_3 : LT), (a.k = gD a.v (Int.toNat (0 : Int)) /\
 DT a /\ DR a /\ (1 : Int) = (↑a.v.length : Int) /\ Jy /\ EI a /\ EG a /\ DT a /\ DR a /\ a.w = a.w /\ zI = zI /\ (∀ (n : Int), (X2 a a_3.t).h n = (Tf a a_1).h n) /\ (∀ (n : Int),
 (X2 a a_3.t).s n = (Tf a a_1).s n) /\ (∀ (n : Int), (X2 a a_3.t).g n = (Tf a a_1).g n) /\ zB = zB /\ Lf a a_3 /\ Lf a a_3) /\ True) /\ ∀ (a_3 : LT), True -> (UE a = UE a /\ VS a /\
 VI a /\ a.w = a.w /\ WO a /\ XP a /\ zI = zI /\ (∀ (n : Int), (X2 a a_3.t).h n = (X2 a a_3.t).h n) /\ (∀ (n : Int), (X2 a a_3.t).s n = (X2 a a_3.t).s n) /\ (∀ (n : Int), (X2 a a_3.t).g n = (X2 a
 a_3.t).g n) /\ zB = zB /\ (∀ (n : Int), false = false) /\ (∀ (n : Int), false = false) /\ GoOk a.f (XN a a_3)) /\ bif !(Qq a a_3).fst then Jt a a_3 /\ Rh a a_3 /\ Ic a a_3 /\ Gf a
 a_3 /\ Fj a a_3 /\ zI = zI /\ (∀ (n : Int), (wM a).r.h n = Oc a a_3 n) /\ (∀ (n : Int), (wM a).r.s n = Nc a a_3 n) /\ (∀ (n : Int), (wM a).r.g n = Pk a a_3 n) /\ zB = zB /\ Hx a a_3 /\
 Hx a a_3 else ∃ (a_5 : LT), (a.k = a.k /\ DT a /\ DR a /\ Int.ofNat (1 : Nat) = Int.ofNat (1 : Nat) /\ Jy /\ Jt a a_3 /\ Rh a a_3 /\ Ic a a_3 /\ Gf a a_3 /\ Fj
 a a_3 /\ zI = zI /\ (∀ (n : Int), (X2 a a_5.t).h n = Oc a a_3 n) /\ (∀ (n : Int), (X2 a a_5.t).s n = Nc a a_3 n) /\ (∀ (n : Int), (X2 a a_5.t).g n = Pk a a_3 n) /\ zB = zB /\ Rx a a_5 a_3 /\
 Rx a a_5 a_3) /\ True /\ Qc a_5 < Qc a_3) := by kernel_rfl
theorem AZC (a : LV) (r : Rm) : LnI.res a.f ⟨⟨a.l, a.v, a.w, r, λ _ => false⟩, 2 * a.k + 1⟩ = (laG a r).getD default := rfl
theorem ASJ (a : LV) (h : LaOk a) : AIX a := by
 have hl := h.w.len
 have hk := h.inn
 have hkw : IntKind.i64.wrap (IntKind.i64.wrap (2 * a.k) + 1) = 2 * a.k + 1 := by
  rw [show IntKind.i64.wrap (2 * a.k) = 2 * a.k from JA (by omega) (by omega)]; exact JA (by omega) (by omega)
 have hv : a.v.length = 1 := rfl
 have hv0 : gD a.v (Int.toNat 0) = a.k := rfl
 have w1 : ∀ i : Nat, i < a.l.length -> IntKind.i64.wrap (2 * (i : Int)) = 2 * i := λ i hi => JA (by omega) (by omega)
 have w2 : ∀ i : Nat, i < a.l.length -> IntKind.i64.wrap (2 * (i : Int) + 1) = 2 * i + 1 := λ i hi => JA (by omega) (by omega)
 rw [ANS]; delta DT DR EI Em KJ EG KH Zi aC MO ON VS Qm VI VF TN WO VN Nr UN Pb Pf Kc XP Mi Fo Pv Ps Jc Qr Qo Gm Pd VX OZ ER Ib Sb XQ Nl Mw Hz IA GD XI GF FM JS TJ NC Ma Im Nf Iv Ji Gc Oq SQ OY Hp Fu Sa Hk XJ Hi Jx Hl Jy Lf UE XN Qq KM Gq Jt VT Ny Rh Fp Ic Gf Fj VR Oc Nc Pk Hw Hx Rx Qc
 simp only [BF, eq_self, implies_true, and_self, true_and, and_true, true_implies, forall_const, decide_eq_true_eq, decide_eq_false_iff_not, Int.toNat_natCast, dSpan_eSpan, dInt_eInt, AV, BH, BJ, BC, AZ, AX, AY, Nat.zero_add, Int.zero_sub, Nat.le_eq, Nat.succ_eq_add_one, Nat.add_one_le_iff, Bool.not_eq_true', Bool.not_eq_false', rng_length, AT, AP, qX, AGO, AGG, ACI, AGJ, AFQ, hkw, AZC, hv0]
 refine ⟨⟨0, ⟨rfl, rfl, λ _ => rfl, λ _ => rfl, λ _ => rfl, rfl⟩, Nat.zero_le _⟩, λ i hi => ⟨λ hlt => ?_, λ hge => ?_⟩⟩
 ·have hi : i < a.l.length := by omega
  have hf := h.w.few i hi
  simp only [w1 i hi, w2 i hi]
  refine ⟨⟨by omega, by omega⟩, hv, λ hb => ⟨⟨by omega, show 2 * (i : Int) + 1 < 4294967296 by omega⟩, ⟨⟨i, 0⟩, ⟨rfl, rfl, rfl, λ _ _ => rfl, rfl, rfl, λ n => ?_, λ n => ?_, λ n => ?_⟩, hi, rfl, Nat.zero_le _⟩, ?_⟩, λ hb => ⟨⟨⟨i, 0⟩, ⟨rfl, rfl, rfl, λ _ _ => rfl, rfl, rfl, λ n => ?_, λ n => ?_, λ n => ?_⟩, hi, rfl, Nat.zero_le _⟩, ?_⟩⟩
  any_goals (show _ = _; simp only [rmJ, rmB, hb, cond_true, cond_false]; done)
  any_goals (show _ = _; simp only [rmJ, rmB, hb, cond_true, cond_false]; rfl)
  all_goals
   intro s hs
   obtain ⟨si, sj⟩ := s
   obtain ⟨s1, s2, s3⟩ := hs
   have s1 : si < a.l.length := s1
   have s2 : 40 - si = 40 - i := s2
   have s3 : sj <= (gD a.l si).of.length := s3
   obtain rfl : si = i := by omega
   simp only [w1 si hi]
   refine ⟨λ hj => ?_, λ hj => ?_⟩
   ·have hj : sj < (gD a.l si).of.length := by have q : (sj : Int) < (gD a.l si).of.length := hj; omega
    have ho := h.w.of si sj hi hj
    have w3 : IntKind.i64.wrap (IntKind.i64.wrap (2 * gD (gD a.l si).of sj) + 1) = 2 * gD (gD a.l si).of sj + 1 := by
     rw [show IntKind.i64.wrap (2 * gD (gD a.l si).of sj) = 2 * gD (gD a.l si).of sj from JA (by omega) (by omega)]; exact JA (by omega) (by omega)
    simp only [w3]
    refine ⟨⟨by omega, by omega⟩, λ _ => hv, λ hg => ⟨⟨by omega, show 2 * (si : Int) < 4294967296 by omega⟩, ⟨si, sj + 1⟩, ⟨rfl, rfl, rfl, λ _ _ => rfl, rfl, (CE (by omega)).symm, λ n => ?_, λ n => ?_, λ n => ?_⟩, ⟨hi, rfl, hj⟩, ?_⟩, λ hg => ⟨⟨si, sj + 1⟩, ⟨rfl, rfl, rfl, λ _ _ => rfl, rfl, (CE (by omega)).symm, λ n => ?_, λ n => ?_, λ n => ?_⟩, ⟨hi, rfl, hj⟩, ?_⟩⟩
    any_goals (show (gD a.l si).of.length - (sj + 1) < (gD a.l si).of.length - sj; omega)
    all_goals
     have hg : AVV a si sj = _ := hg
     simp only [rmJ, hg, cond_true, cond_false]
     try rfl
   ·have hj : ¬ (sj : Int) < (gD a.l si).of.length := hj
    obtain rfl : sj = (gD a.l si).of.length := by omega
    exact ⟨si + 1, ⟨(CE (by omega)).symm, λ _ => rfl, λ _ => rfl, λ _ => rfl⟩, hi, by omega⟩
 ·obtain rfl : i = a.l.length := by omega
  refine ⟨⟨by omega, by omega⟩, ⟨⟨false⟩, rfl, λ _ => rfl, λ _ => rfl, λ _ => rfl, λ _ => rfl⟩, λ t => ?_⟩
  have gok : ∀ {r : Rm} {q : Bool × GS}, laG a r = some q -> GoOk a.f ⟨⟨a.l, a.v, a.w, r, λ _ => false⟩, 2 * a.k + 1⟩ := λ {r q} hq =>
   ⟨hl, h.wo, ⟨show 0 <= 2 * a.k + 1 by omega, show 2 * a.k + 1 < 2 * (a.l.length : Int) by omega⟩, by
    show (laG a r).isSome = true
    rw [hq]; rfl⟩
  obtain ⟨t⟩ := t
  cases t with
  | false =>
   have e : laG a (X2 a false) = some (true, la1 a) := h.one'
   rw [e]
   exact ⟨gok e, (λ h0 => by cases h0), λ _ => ⟨⟨true⟩, ⟨λ _ => rfl, λ _ => rfl, λ _ => rfl, λ _ => rfl⟩, by show 1 < 2; omega⟩⟩
  | true =>
   have e : laG a (X2 a true) = some (false, wM a) := h.two
   rw [e]
   exact ⟨gok e, λ _ => ⟨λ _ => rfl, λ _ => rfl, λ _ => rfl, λ _ => rfl⟩, λ h0 => by cases h0⟩
theorem ABM (f : Nat) : AR Try.prog F1 (C_lanes.spec (d_LV f)) := EX C_lanes AIO [(0, 201), (2, 202), (3, 203)] [] ALD (λ _ => by kernel_rfl) (λ a => AH AAN (AH (AQB a.f) AM)) (λ (a : LV) h => ASJ a h) (λ _ => FK rfl rfl) _
structure FA where
 f : Nat
 l : List Wk
 v : List Int
def FA.lv (a : FA) : LV := ⟨a.f, a.l, gD a.v 0, wr (a.l.length - 1)⟩
def FA.wi (a : FA) : WI := ⟨a.l, a.v⟩
def d_FA (f : Nat) : List AVal -> Heap -> Option (FA × List (Nat × Nat) × List Nat)
 | [x, y, _], H => match dWks x H, YY y H with
  | some (l, p), some (v, g) => some (⟨f, l, v⟩, [], p ++ g)
  | _, _ => none
 | _, _ => none
structure FnOk (a : FA) : Prop where
 r : RvOk a.wi
 k : gD a.v 0 + 1 < a.l.length
 m : CK (gD a.l (a.l.length - 1)).of (gD a.v 0) = true
structure FlOk (a : FA) : Prop where
 r : RvOk a.wi
 k : gD a.v 0 + 1 < a.l.length
 m : CK (gD a.l (a.l.length - 1)).of (gD a.v 0) = false
 la : LaOk a.lv
def xFA (a : FA) : List AVal := [.d (JZ a.l), .d (AF a.v), .int (wr (a.l.length - 1))]
def O1 (a : FA) : Ann := ann 29 [(AFH, C_kept.spec AXL), (JD, C3Kf.spec d3Kf), (F1, C_lanes.spec (d_LV a.f))]
def C_fullN : Ctr := { α := FA, xs := xFA, L := λ _ => [], val := λ _ => .tup [.d (.v (.pointer none)), .int 5], keep := λ _ => [], pre := λ a => [FnOk a] }
def AHU (a : FA) : Prop := BB Try.prog (O1 a) mX (AS mX) (xFA a) (AK []) (C_fullN.val a) [] [] []
abbrev Cr (a : FA) : List Wk := AJ a.l.length λ (i : Nat) => BE (BK (gD a.l i))
abbrev IJ (a : FA) : Nat := (Cr a).length
abbrev cN (i : Nat) (a : FA) : Prop := i < IJ a
abbrev SC (a : FA) (i : Nat) : Wk := gD (Cr a) i
abbrev aS (a : FA) (i : Nat) : List Int := (SC a i).of
abbrev RF (a : FA) (i : Nat) : Nat := (aS a i).length
abbrev eS (i : Nat) (a : FA) (i1 : Nat) : Prop := i < RF a i1
abbrev Ch (a : FA) (i : Nat) (i1 : Nat) : Int := gD (aS a i) i1
abbrev Cl (a : FA) (i : Nat) : Int := (SC a i).ba
abbrev Dq (a : FA) (i : Nat) : Int := (SC a i).mi
abbrev OV (a : FA) : List Int := AJ a.v.length λ (i : Nat) => gD a.v i
abbrev NK (a : FA) : Nat := (OV a).length
abbrev Mc (a : FA) : Prop := NK a = a.v.length
abbrev Nk (a : FA) (i : Nat) : Int := gD (OV a) i
abbrev Gr (a : FA) : Prop := ∀ (i : Nat), i < NK a -> Nk a i = gD a.v i
abbrev HC (a : FA) : Int := wr ((↑a.l.length : Int) - (1 : Int))
abbrev Kq (a : FA) : Int := gD (OV a) (0 : Nat)
abbrev SX (a : FA) : Prop := HC a = HC a
abbrev OB (a : FA) : List Wk := AJ (IJ a) λ (i : Nat) => BE (BK (SC a i))
abbrev OC (a : FA) : Nat := (OB a).length
abbrev Li (a : FA) : Prop := OC a = IJ a
abbrev XZ (a : FA) (i : Nat) : Wk := gD (OB a) i
abbrev Qa (a : FA) (i : Nat) : List Int := (XZ a i).of
abbrev UK (a : FA) (i : Nat) : Nat := (Qa a i).length
abbrev Kw (a : FA) (i : Nat) (i1 : Nat) : Int := gD (Qa a i) i1
abbrev Km (a : FA) (i : Nat) : Int := (XZ a i).ba
abbrev Oy (a : FA) (i : Nat) : Int := (XZ a i).mi
abbrev Hy (a : FA) : Prop := ∀ (i : Nat), i < OC a -> UK a i = RF a i /\ (∀ (i_1 : Nat), i_1 < UK a i -> Kw a i i_1 = Ch a i i_1) /\ Km a i = Cl a i /\
 Oy a i = Dq a i
abbrev Ra (a : FA) : List Int := (gD (OB a) (HC a).toNat).of
abbrev Oz (a : FA) : LV := LV.mk a.f (OB a) (Kq a) (HC a)
abbrev Ry (a : FA) : List Int := (Oz a).v
abbrev Lt (a : FA) : Nat := (Ry a).length
theorem ASD (a : FA) : (AHU a) = ((IJ a = a.l.length /\ (∀ (i : Nat), cN i a -> RF a i = (gD a.l i).of.length /\ (∀ (i_1 : Nat), eS i_1 a i -> Ch a i i_1 = gD (gD a.l i).of i_1) /\
 Cl a i = (gD a.l i).ba /\ Dq a i = (gD a.l i).mi) /\ Mc a /\ Gr a /\ wr ((↑(IJ a) : Int) - (1 : Int)) = HC a /\ RvOk (WI.mk (Cr a) (OV a)) /\ Kq a + (1 : Int)
 < (↑(IJ a) : Int)) /\ (Mc a /\ Gr a /\ SX a /\ Li a /\ Hy a /\ SX a /\ IJ a = OC a /\ (∀ (i : Nat), cN i a -> RF a i = UK a i /\ (∀ (i_1 :
 Nat), eS i_1 a i -> Ch a i i_1 = Kw a i i_1) /\ Cl a i = Km a i /\ Dq a i = Oy a i) /\ NK a < (4611686018427387904 : Nat) /\ ((0 : Int) <= HC a /\ HC a
 < (↑(OC a) : Int)) /\ (Ra a).length <= (5 : Nat)) /\ bif decide (BN (λ (i : Nat) => CK (Ra a) (Nk a i)) (NK a) (0 : Nat) >= (0 : Int)) then Value.pointer none = Value.pointer none
 /\ Int.ofNat (5 : Nat) = Int.ofNat (5 : Nat) else (Lt a = a.v.length /\ (∀ (i : Nat), i < Lt a -> gD (Ry a) i = gD a.v i) /\ SX a /\ Li a /\ Hy a /\ LaOk (Oz a)) /\ False)
 := by kernel_rfl
def C_full : Ctr := { α := FA, xs := xFA, L := λ _ => [], val := λ _ => .tup [.bptr 0 0, .int 0], keep := λ a => [(0, .live (lnX a.lv 1 2 3)), (1, .live (HY a.l)), (2, .live (rmO (wM a.lv).r)), (3, .live (mtO (wM a.lv).m))], pre := λ a => [FlOk a] }
def ALY (a : FA) : Prop := BB Try.prog (O1 a) mX (AS mX) (xFA a) (AK []) (C_full.val a) (C_full.keep a) [(0, 7048), (1, 2048), (2, 7050), (3, 7051)] []
abbrev Wz (a : FA) : List Wk := AJ a.l.length λ (i : Nat) => BE (BK (gD a.l i))
abbrev LN (a : FA) : Nat := (Wz a).length
abbrev uK (i : Nat) (a : FA) : Prop := i < LN a
abbrev ZM (a : FA) (i : Nat) : Wk := gD (Wz a) i
abbrev rT (a : FA) (i : Nat) : List Int := (ZM a i).of
abbrev ZD (a : FA) (i : Nat) : Nat := (rT a i).length
abbrev rC (i : Nat) (a : FA) (i1 : Nat) : Prop := i < ZD a i1
abbrev Xi (a : FA) (i : Nat) (i1 : Nat) : Int := gD (rT a i) i1
abbrev tP (a : FA) (i : Nat) (i1 : Nat) : Int := gD (gD a.l i).of i1
abbrev Wd (a : FA) (i : Nat) : Int := (ZM a i).ba
abbrev Bn (a : FA) (i : Nat) : Int := (ZM a i).mi
abbrev RQ (a : FA) : List Int := AJ a.v.length λ (i : Nat) => gD a.v i
abbrev RU (a : FA) : Nat := (RQ a).length
abbrev dE (a : FA) : Prop := RU a = a.v.length
abbrev Zj (a : FA) (i : Nat) : Int := gD (RQ a) i
abbrev Zh (a : FA) : Prop := ∀ (i : Nat), i < RU a -> Zj a i = gD a.v i
abbrev HF (a : FA) : Int := wr ((↑a.l.length : Int) - (1 : Int))
abbrev Zo (a : FA) : Int := gD (RQ a) (0 : Nat)
abbrev Cc (a : FA) : Prop := HF a = HF a
abbrev QQ (a : FA) : List Wk := AJ (LN a) λ (i : Nat) => BE (BK (ZM a i))
abbrev MG (a : FA) : Nat := (QQ a).length
abbrev eO (a : FA) : Prop := MG a = LN a
abbrev Es (a : FA) (i : Nat) : Wk := gD (QQ a) i
abbrev dP (a : FA) (i : Nat) : List Int := (Es a i).of
abbrev QM (a : FA) (i : Nat) : Nat := (dP a i).length
abbrev Bq (a : FA) (i : Nat) (i1 : Nat) : Int := gD (dP a i) i1
abbrev Cb (a : FA) (i : Nat) : Int := (Es a i).ba
abbrev Ef (a : FA) (i : Nat) : Int := (Es a i).mi
abbrev Zp (a : FA) : Prop := ∀ (i : Nat), i < MG a -> QM a i = ZD a i /\ (∀ (i_1 : Nat), i_1 < QM a i -> Bq a i i_1 = Xi a i i_1) /\ Cb a i = Wd a i /\ Ef a i
 = Bn a i
abbrev eV (a : FA) : List Int := (gD (QQ a) (HF a).toNat).of
abbrev Bw (a : FA) : LV := LV.mk a.f (QQ a) (Zo a) (HF a)
abbrev Zr (a : FA) : List Int := (Bw a).v
abbrev Bm (a : FA) : Nat := (Zr a).length
abbrev eL (a : FA) (i : Nat) : Int := gD (Zr a) i
abbrev cP (a : FA) : GS := wM (Bw a)
abbrev Cf (a : FA) : Rm := (cP a).r
abbrev bG (a : FA) : Prop := ∀ (n : Int), (wM a.lv).m n = (cP a).m n
theorem ASN (a : FA) : (ALY a) = ((LN a = a.l.length /\ (∀ (i : Nat), uK i a -> ZD a i = (gD a.l i).of.length /\ (∀ (i_1 : Nat), rC i_1 a i -> Xi a i i_1 = tP a i i_1) /\ Wd a
 i = (gD a.l i).ba /\ Bn a i = (gD a.l i).mi) /\ dE a /\ Zh a /\ wr ((↑(LN a) : Int) - (1 : Int)) = HF a /\ RvOk (WI.mk (Wz a) (RQ a)) /\ Zo a + (1 : Int) < (↑(LN a) :
 Int)) /\ (dE a /\ Zh a /\ Cc a /\ eO a /\ Zp a /\ Cc a /\ LN a = MG a /\ (∀ (i : Nat), uK i a -> ZD a i = QM a i /\ (∀ (i_1 : Nat), rC i_1 a i ->
 Xi a i i_1 = Bq a i i_1) /\ Wd a i = Cb a i /\ Bn a i = Ef a i) /\ RU a < (4611686018427387904 : Nat) /\ ((0 : Int) <= HF a /\ HF a < (↑(MG a) : Int)) /\
 (eV a).length <= (5 : Nat)) /\ bif decide (BN (λ (i : Nat) => CK (eV a) (Zj a i)) (RU a) (0 : Nat) >= (0 : Int)) then False else (Bm a = a.v.length /\ (∀ (i : Nat), i < Bm a ->
 eL a i = gD a.v i) /\ Cc a /\ eO a /\ Zp a /\ LaOk (Bw a)) /\ Int.ofNat (0 : Nat) = Int.ofNat (0 : Nat) /\ a.lv.v.length = Bm a /\ (∀ (i : Nat), i < a.lv.v.length -> gD a.lv.v i =
 eL a i) /\ a.lv.w = HF a /\ a.l.length = MG a /\ (∀ (i : Nat), i < a.l.length -> (gD a.l i).of.length = QM a i /\ (∀ (i_1 : Nat), i_1 < (gD a.l i).of.length -> tP a i i_1 = Bq a i i_1)
 /\ (gD a.l i).ba = Cb a i /\ (gD a.l i).mi = Ef a i) /\ zI = zI /\ (∀ (n : Int), (wM a.lv).r.h n = (Cf a).h n) /\ (∀ (n : Int), (wM a.lv).r.s n = (Cf a).s n) /\ (∀ (n : Int), (wM a.lv).r.g n =
 (Cf a).g n) /\ zB = zB /\ bG a /\ bG a) := by kernel_rfl
theorem sL {a : FA} (h : RvOk a.wi) : wr ((a.l.length : Int) - 1) = (a.l.length : Int) - 1 /\ (wr ((a.l.length : Int) - 1)).toNat = a.l.length - 1 /\ 1 <= a.l.length /\ a.l.length <= 30 /\ a.v.length = 1 /\ (gD a.l (a.l.length - 1)).of.length <= 5 /\
  ∀ p : Nat -> Bool, BN p a.v.length 0 = if p 0 then 0 else -1 := by
 have hl : 1 <= a.l.length /\ a.l.length <= 30 := h.w.len
 have h1 : a.v.length = 1 := h.one
 have e : wr ((a.l.length : Int) - 1) = (a.l.length : Int) - 1 := JA (by omega) (by omega)
 refine ⟨e, by rw [e]; omega, hl.1, hl.2, h1, h.w.few _ (show a.l.length - 1 < a.l.length by omega), λ p => by rw [h1]; rfl⟩
theorem ATR (a : FA) (h : FnOk a) : AHU a := by
 obtain ⟨e1, e2, l1, l2, h1, hf, hx⟩ := sL h.r
 have hk := h.k
 rw [ASD]; delta Cr IJ cN SC aS RF eS Ch Cl Dq OV NK Mc Nk Gr HC Kq SX OB OC Li XZ Qa UK Kw Km Oy Hy Ra Oz Ry Lt; simp only [BF, eq_self, implies_true, and_self, true_and, and_true, true_implies, forall_const, decide_eq_true_eq, decide_eq_false_iff_not, Int.toNat_natCast, dSpan_eSpan, dInt_eInt, AV, BH, BJ, BC, AZ, AX, AY, Nat.zero_add, Int.zero_sub, Nat.le_eq, Nat.succ_eq_add_one, Nat.add_one_le_iff, Bool.not_eq_true', Bool.not_eq_false', rng_length, AT, AP, e2, hx, h.m, if_true]
 refine ⟨⟨h.r, hk⟩, ⟨by omega, ⟨by omega, by omega⟩, hf⟩, λ h0 => absurd h0 (by decide)⟩
theorem BBT (a : FA) (h : FlOk a) : ALY a := by
 obtain ⟨e1, e2, l1, l2, h1, hf, hx⟩ := sL h.r
 have hk := h.k
 rw [ASN]; delta Wz LN uK ZM rT ZD rC Xi tP Wd Bn RQ RU dE Zj Zh HF Zo Cc QQ MG eO Es dP QM Bq Cb Ef Zp eV Bw Zr Bm eL cP Cf bG; simp only [BF, eq_self, implies_true, and_self, true_and, and_true, true_implies, forall_const, decide_eq_true_eq, decide_eq_false_iff_not, Int.toNat_natCast, dSpan_eSpan, dInt_eInt, AV, BH, BJ, BC, AZ, AX, AY, Nat.zero_add, Int.zero_sub, Nat.le_eq, Nat.succ_eq_add_one, Nat.add_one_le_iff, Bool.not_eq_true', Bool.not_eq_false', rng_length, AT, AP, qX, e2, hx, h.m]
 refine ⟨⟨h.r, hk⟩, ⟨by omega, ⟨by omega, by omega⟩, hf⟩, λ h0 => absurd h0 (by decide), λ _ => ⟨⟨h1.symm, λ i hi => ?_, h.la⟩, rfl, λ _ _ => rfl, rfl, λ _ => rfl, λ _ => rfl, λ _ => rfl, λ _ => rfl⟩⟩
 have hi : i < 1 := hi
 obtain rfl : i = 0 := by omega
 rfl
theorem AON (f : Nat) : AR Try.prog nL (C_fullN.spec (d_FA f)) := EX C_fullN O1 [] [] AIL (λ _ => by kernel_rfl) (λ a => AH AIT (AH AVS (AH (ABM a.f) AM))) (λ (a : FA) h => ATR a h) (λ _ => FK rfl rfl) _
theorem ATH (f : Nat) : AR Try.prog nL (C_full.spec (d_FA f)) := EX C_full O1 [(0, 7048), (1, 2048), (2, 7050), (3, 7051)] [] AIL (λ _ => by kernel_rfl) (λ a => AH AIT (AH AVS (AH (ABM a.f) AM))) (λ (a : FA) h => BBT a h) (λ _ => FK rfl rfl) _
def ARQ (a : FA) : Ann := ann 74 [(nL, C_fullN.spec (d_FA a.f))]
def gY (a : LV) : GS := ((laG a (wM a).r).getD default).2
def SK (a : LV) (i : Nat) : Bool := bif (bif innM a.v a.w i then (gY a).m (2 * i) else false) then !(gY a).m (2 * i + 1) else false
structure FzOk (a : FA) : Prop where
 la : FlOk a
 three : laG a.lv (wM a.lv).r = some (false, gY a.lv)
def C_Frz : Ctr := { α := FA, xs := xFA, L := λ _ => [], val := λ a => .tup [.d (AF (DG (SK a.lv) a.l.length)), .int 0], keep := λ _ => [], pre := λ a => [FzOk a] }
def fzH (a : FA) : List (Nat × HCell) := [(201, .live (lnX a.lv 204 202 203)), (202, .live (rmO (gY a.lv).r)), (203, .live (mtO (gY a.lv).m)), (204, .live (HY a.l))]
def BJQ (a : FA) : Shape := { α := Nat, dflt := 0, T := λ k => ⟨[(8, .bptr 201 0), (12, .d QF), (41, .int a.l.length), (42, .int k)], fzH a⟩, inv := λ k => k <= a.l.length /\ DG (SK a.lv) k = [], meas := λ k => 40 - k, first := [(201, 2048), (204, 2049), (202, 2050), (203, 2051)] }
def AVG (a : FA) : Shape := { α := Nat, dflt := 0, T := λ k => ⟨[(8, .bptr 201 0), (12, .own 205 1 0 (DG (SK a.lv) k).length), (41, .int a.l.length), (42, .int k)], fzH a ++ [(205, .live (rwI (DG (SK a.lv) k)))]⟩, inv := λ k => k <= a.l.length /\ 0 < (DG (SK a.lv) k).length, meas := λ k => 40 - k, again := [(205, 16048)] }
def BDH (a : FA) : Shape := { AVG a with again := [] }
def AXK (a : FA) : Ann := { ann 74 [(nL, C_full.spec (d_FA a.f)), (AAH, (wI a.f).spec rS), (mS, C_inner.spec rS)] with mt := λ id => id == 15, unr := λ id => if id = 6 then 2 else 0, loops := λ id => if id = 12 then some [BJQ a, AVG a, BDH a] else none }
def AWJ (a : FA) : Prop := BB Try.prog (AXK a) ZJ (AS ZJ) (xFA a) (AK []) (C_Frz.val a) [] [] [205]
abbrev iA (a : FA) : List Wk := AJ a.l.length λ (i : Nat) => BE (BK (gD a.l i))
abbrev VG (a : FA) : Nat := (iA a).length
abbrev zR (a : FA) : Prop := VG a = a.l.length
abbrev Vt (a : FA) (i : Nat) : Wk := gD (iA a) i
abbrev yL (a : FA) (i : Nat) : List Int := (Vt a i).of
abbrev Uw (a : FA) (i : Nat) : Nat := (yL a i).length
abbrev kC (a : FA) (i : Nat) (i1 : Nat) : Int := gD (yL a i) i1
abbrev Dj (a : FA) (i : Nat) (i1 : Nat) : Int := gD (gD a.l i).of i1
abbrev kA (a : FA) (i : Nat) : Int := (Vt a i).ba
abbrev mJ (a : FA) (i : Nat) : Int := (Vt a i).mi
abbrev pR (a : FA) : Prop := ∀ (i : Nat), i < VG a -> Uw a i = (gD a.l i).of.length /\ (∀ (i_1 : Nat), i_1 < Uw a i -> kC a i i_1 = Dj a i i_1) /\ kA a i = (gD a.l i).ba /\ mJ a i =
 (gD a.l i).mi
abbrev We (a : FA) : List Int := AJ a.v.length λ (i : Nat) => gD a.v i
abbrev rG (a : FA) : Nat := (We a).length
abbrev rN (a : FA) : FA := FA.mk a.f (iA a) (We a)
abbrev tY (a : FA) : Prop := (0 : Int) < (↑a.v.length : Int)
abbrev Xy (a : FA) : Int := IntKind.i64.wrap (IntKind.i64.wrap ((2 : Int) * gD a.v (Int.toNat (0 : Int))) + (1 : Int))
abbrev Wq (a : FA) : LV := (rN a).lv
abbrev vH (a : FA) : List Int := (Wq a).v
abbrev Tz (a : FA) : Nat := (vH a).length
abbrev Ur (a : FA) (i : Nat) : Int := gD (vH a) i
abbrev Ub (a : FA) : List Int := AJ (Tz a) λ (i : Nat) => Ur a i
abbrev rZ (a : FA) : Nat := (Ub a).length
abbrev Az (a : FA) : Int := (Wq a).w
abbrev Ui (a : FA) : List Wk := AJ (VG a) λ (i : Nat) => BE (BK (Vt a i))
abbrev vS (a : FA) : Nat := (Ui a).length
abbrev Vg (a : FA) (i : Nat) : Wk := gD (Ui a) i
abbrev sV (a : FA) (i : Nat) : List Int := (Vg a i).of
abbrev nH (a : FA) (i : Nat) : Nat := (sV a i).length
abbrev SH (a : FA) : Rm := (wM (Wq a)).r
abbrev Yd (a : FA) (n : Int) : Bool := (SH a).h n
abbrev Ud (a : FA) (n : Int) : Int := (SH a).s n
abbrev Ac (a : FA) (n : Int) : Int := (SH a).g n
abbrev pS (a : FA) : Ln := Ln.mk (Ui a) (Ub a) (Az a) (Rm.mk (SH a).h (λ (n : Int) => Ac a n) (SH a).s) λ (x : Int) => false
abbrev Vo (a : FA) : LnI := LnI.mk (pS a) (Xy a)
abbrev z_Frz_34 : Int := IntKind.i64.wrap ((0 : Int) + (1 : Int))
abbrev vM (a : FA) : Prop := z_Frz_34 < (↑a.v.length : Int)
abbrev Uc (a : FA) : Int := IntKind.i64.wrap (IntKind.i64.wrap ((2 : Int) * gD a.v z_Frz_34.toNat) + (1 : Int))
abbrev MU (a : FA) : Ln := (Vo a).with (LnI.res a.f (Vo a)).snd
abbrev tG (a : FA) : List Int := (MU a).v
abbrev Vu (a : FA) : Nat := (tG a).length
abbrev Uk (a : FA) (i : Nat) : Int := gD (tG a) i
abbrev Tq (a : FA) : List Int := AJ (Vu a) λ (i : Nat) => Uk a i
abbrev oU (a : FA) : LnI := LnI.mk (pS a) (IntKind.i64.wrap (IntKind.i64.wrap ((2 : Int) * gD a.v (0 : Nat)) + (1 : Int)))
abbrev nW (a : FA) : Ln := (oU a).with (LnI.res a.f (oU a)).snd
abbrev vT (a : FA) : List Int := (nW a).v
abbrev Ai (a : FA) : Int := (MU a).w
abbrev uG (a : FA) : List Wk := (MU a).l
abbrev Vf (a : FA) : Nat := (uG a).length
abbrev ZK (a : FA) (i : Nat) : Wk := gD (uG a) i
abbrev Tj (a : FA) : List Wk := AJ (Vf a) λ (i : Nat) => BE (BK (ZK a i))
abbrev vK (a : FA) : List Wk := (nW a).l
abbrev tI (a : FA) : List Wk := AJ (vK a).length λ (i : Nat) => BE (BK (gD (vK a) i))
abbrev Xe (a : FA) (i : Nat) : Wk := gD (Tj a) i
abbrev oP (a : FA) (i : Nat) : List Int := (Xe a i).of
abbrev tX (a : FA) (i : Nat) : List Int := (ZK a i).of
abbrev wB (a : FA) (i : Nat) : Nat := (tX a i).length
abbrev uP (a : FA) (i : Nat) (i1 : Nat) : Int := gD (tX a i) i1
abbrev tV (a : FA) (i : Nat) : Int := (ZK a i).ba
abbrev nR (a : FA) (i : Nat) : Int := (ZK a i).mi
abbrev QS (a : FA) : Rm := (MU a).r
abbrev Xp (a : FA) (n : Int) : Bool := (QS a).h n
abbrev Vj (a : FA) (n : Int) : Int := (QS a).s n
abbrev YT (a : FA) (n : Int) : Int := (QS a).g n
abbrev Uh (a : FA) (n : Int) : Bool := (MU a).m n
abbrev sF (a : FA) : Prop := ∀ (n : Int), Uh a n = Uh a n
abbrev NU : Prop := (0 : Nat) = (0 : Nat)
abbrev To : Prop := ∀ (i : Nat), i < (0 : Nat) -> false = false
abbrev PK (a : FA) : Prop := (↑a.l.length : Int) = (↑a.l.length : Int)
abbrev pQ (a : Nat) : Prop := (↑a : Int) = (0 : Int)
abbrev qD (a : FA) : Prop := ∀ (n : Int), (gY a.lv).m n = Uh a n
abbrev Um (i : Nat) (a : FA) (i1 : Nat) : Prop := i < (gD a.l i1).of.length
abbrev YW (a : Nat) (a1 : FA) : Prop := a <= a1.l.length /\ DG (SK a1.lv) a = []
abbrev qO (a : Nat) (a1 : FA) : Bool := decide ((↑a : Int) < (↑a1.l.length : Int))
abbrev Wo (a : FA) : List Int := AJ a.lv.v.length λ (i : Nat) => gD a.lv.v i
abbrev ZV (a : FA) : Nat := (Wo a).length
abbrev qE (a : FA) (i : Nat) : Int := gD (Wo a) i
abbrev NT (a : FA) : Prop := ∀ (n : Int), (gY a.lv).r.h n = (gY a.lv).r.h n
abbrev PH (a : FA) : Prop := ∀ (n : Int), (gY a.lv).r.s n = (gY a.lv).r.s n
abbrev NV (a : FA) : Prop := ∀ (n : Int), (gY a.lv).r.g n = (gY a.lv).r.g n
abbrev FQ (a : FA) : Prop := ∀ (n : Int), (gY a.lv).m n = (gY a.lv).m n
abbrev sU (a : FA) : Prop := a.l.length = VG a
abbrev sN (a : FA) : Prop := ∀ (i : Nat), i < a.l.length -> (gD a.l i).of.length = Uw a i /\ (∀ (i_1 : Nat), Um i_1 a i -> Dj a i i_1 = kC a i i_1) /\ (gD a.l i).ba = kA a i /\ (gD a.l i).mi =
 mJ a i
abbrev oO (a : FA) (a1 : Nat) : Bool := innM (Wo a) a.lv.w (↑a1 : Int)
abbrev qK (a : Nat) : Int := IntKind.i64.wrap ((2 : Int) * (↑a : Int))
abbrev qZ (a : FA) (a1 : Nat) : Bool := bif oO a a1 then (gY a.lv).m (qK a1) else false
abbrev nP (a : Nat) (a1 : FA) : Prop := (↑a : Int) = (↑a : Int) /\ ZV a1 = a1.lv.v.length /\ (∀ (i : Nat), i < ZV a1 -> qE a1 i = gD a1.lv.v i) /\ a1.lv.w = a1.lv.w /\ zR a1 /\ pR a1 /\ zI =
 zI /\ NT a1 /\ PH a1 /\ NV a1 /\ zB = zB /\ FQ a1 /\ FQ a1 /\ a1.lv.v.length = ZV a1 /\ (∀ (i : Nat), i < a1.lv.v.length -> gD a1.lv.v i = qE a1 i) /\ a1.lv.w = a1.lv.w /\ sU a1 /\
 sN a1 /\ zI = zI /\ NT a1 /\ PH a1 /\ NV a1 /\ zB = zB /\ FQ a1 /\ FQ a1 /\ ZV a1 = (1 : Nat) /\ (oO a1 a = true -> Value.bool false = zB) /\ (qZ a1 a = true -> Value.bool false
 = zB)
abbrev sC (a : FA) (a1 : Nat) : Bool := bif qZ a a1 then !(gY a.lv).m (IntKind.i64.wrap (qK a1 + (1 : Int))) else false
abbrev Wy : Prop := (0 : Nat) < (1 : Nat)
abbrev sD : Prop := (1 : Nat) = (1 : Nat)
abbrev vZ : Prop := (1 : Nat) <= (1 : Nat) /\ (Wy -> sD)
abbrev sK (a : FA) (a1 : Nat) : Prop := (DG (SK a.lv) a1).length = (1 : Nat)
abbrev ZG (a : Nat) (a1 : Nat) : Prop := (↑a : Int) = IntKind.i64.wrap ((↑a1 : Int) + (1 : Int))
abbrev Af (a : FA) : Prop := a.lv.v.length = a.lv.v.length
abbrev YS (a : FA) : Prop := ∀ (i : Nat), i < a.lv.v.length -> gD a.lv.v i = gD a.lv.v i
abbrev Ax (a : FA) : Prop := a.l.length = a.l.length
abbrev Ao (a : FA) : Prop := ∀ (i : Nat), i < a.l.length -> (gD a.l i).of.length = (gD a.l i).of.length /\ (∀ (i_1 : Nat), Um i_1 a i -> Dj a i i_1 = Dj a i i_1) /\ (gD a.l i).ba = (gD a.l i).ba /\ (gD
 a.l i).mi = (gD a.l i).mi
abbrev Aq (i : Nat) (a : FA) (a1 : Nat) : Prop := i < (DG (SK a.lv) a1).length
abbrev rU (a : FA) (a1 : Nat) : Prop := (0 : Nat) < (DG (SK a.lv) a1).length
abbrev oD (a : Nat) (a1 : FA) : Prop := a <= a1.l.length /\ rU a1 a
abbrev vW (a : Nat) : Nat := (40 : Nat) - a
abbrev cI (a : Nat) (a1 : Nat) : Prop := vW a < vW a1
abbrev Br (a : Nat) (a1 : FA) (a2 : Nat) : Prop := oD a a1 /\ cI a a2
abbrev En (a : FA) : Nat := (DG (SK a.lv) a.l.length).length
abbrev fC (a : FA) : Prop := En a = (0 : Nat)
abbrev eG : Prop := Int.ofNat (0 : Nat) = Int.ofNat (0 : Nat)
abbrev Ce (a : FA) (a1 : Nat) : Nat := (DG (SK a.lv) a1).length + (1 : Nat)
abbrev dD (a : FA) (a1 : Nat) (a2 : Nat) : Prop := (DG (SK a.lv) a1).length = Ce a a2
abbrev fE (a : FA) (a1 : Nat) (a2 : Nat) : Prop := (DG (SK a.lv) a1).length = (DG (SK a.lv) a2).length
abbrev cE (a : FA) : Prop := ∀ (a_1 : Nat), oD a_1 a -> bif qO a_1 a then nP a_1 a /\ bif sC a a_1 then (((DG (SK a.lv) a_1).length = (DG (SK a.lv) a_1).length /\ (rU a a_1 ->
 sD)) /\ vZ /\ (false = true -> Wy) /\ Ce a a_1 <= (9223372036854775807 : Nat) /\ Ce a a_1 * (8 : Nat) <= (140737488355328 : Nat)) /\ ∃ (a_3 : Nat), (NU /\ dD a a_3 a_1 /\ PK a /\
 ZG a_3 a_1 /\ Af a /\ YS a /\ a.lv.w = a.lv.w /\ zI = zI /\ NT a /\ PH a /\ NV a /\ zB = zB /\ FQ a /\ FQ a /\ Ax a /\ Ao a /\ dD a a_3 a_1 /\ ∀ (i : Nat), Aq i
 a a_3 -> gD (DG (SK a.lv) a_3) i = bif decide (Aq i a a_1) then gD (DG (SK a.lv) a_1) i else (↑a_1 : Int)) /\ Br a_3 a a_1 else ∃ (a_3 : Nat), (NU /\ fE a a_3 a_1 /\ PK a /\ ZG a_3
 a_1 /\ Af a /\ YS a /\ a.lv.w = a.lv.w /\ zI = zI /\ NT a /\ PH a /\ NV a /\ zB = zB /\ FQ a /\ FQ a /\ Ax a /\ Ao a /\ fE a a_3 a_1 /\ ∀ (i : Nat), Aq i a a_3 -> gD
 (DG (SK a.lv) a_3) i = gD (DG (SK a.lv) a_1) i) /\ Br a_3 a a_1 else En a = (DG (SK a.lv) a_1).length /\ (0 : Nat) + (DG (SK a.lv) a_1).length <= (DG (SK a.lv) a_1).length /\ (∀ (j : Nat), j <
 En a -> gD (DG (SK a.lv) a.l.length) j = gD (DG (SK a.lv) a_1) ((0 : Nat) + j)) /\ eG
abbrev aF (a : FA) : Prop := (∀ (a_1 : Nat), YW a_1 a -> bif qO a_1 a then nP a_1 a /\ bif sC a a_1 then ((True /\ ((0 : Nat) < (0 : Nat) -> (0 : Nat) = (1 : Nat))) /\ vZ /\ (true = true ->
 Wy) /\ (1 : Nat) <= (9223372036854775807 : Nat) /\ (8 : Nat) <= (140737488355328 : Nat)) /\ ∃ (a_3 : Nat), (NU /\ sK a a_3 /\ PK a /\ ZG a_3 a_1 /\ Af a /\ YS a /\ a.lv.w = a.lv.w /\ zI = zI
 /\ NT a /\ PH a /\ NV a /\ zB = zB /\ FQ a /\ FQ a /\ Ax a /\ Ao a /\ sK a a_3 /\ ∀ (i : Nat), Aq i a a_3 -> gD (DG (SK a.lv) a_3) i = (↑a_1 : Int)) /\ Br a_3 a a_1
 else ∃ (a_3 : Nat), (NU /\ To /\ PK a /\ ZG a_3 a_1 /\ Af a /\ YS a /\ a.lv.w = a.lv.w /\ zI = zI /\ NT a /\ PH a /\ NV a /\ zB = zB /\ FQ a /\ FQ a /\ Ax a /\
 Ao a) /\ YW a_3 a /\ cI a_3 a_1 else fC a /\ fC a /\ eG) /\ cE a /\ cE a
abbrev eK (a : FA) : Prop := ∀ (n : Int), (gY a.lv).m n = false
theorem BAX (a : FA) : (AWJ a) = ((zR a /\ pR a /\ rG a = a.v.length /\ (∀ (i : Nat), i < rG a -> gD (We a) i = gD a.v i) /\ wr ((↑(VG a) : Int) - (1 : Int)) = wr ((↑a.l.length : Int) -
 (1 : Int)) /\ FlOk (rN a)) /\ bif decide (tY a) then ((0 : Int) <= (0 : Int) /\ tY a) /\ (Xy a = Xy a /\ rZ a = Tz a /\ (∀ (i : Nat), i < rZ a -> gD (Ub a) i = Ur a i)
 /\ Az a = Az a /\ vS a = VG a /\ (∀ (i : Nat), i < vS a -> nH a i = Uw a i /\ (∀ (i_1 : Nat), i_1 < nH a i -> gD (sV a i) i_1 = kC a i i_1) /\ (Vg a i).ba = kA
 a i /\ (Vg a i).mi = mJ a i) /\ zI = zI /\ (∀ (n : Int), Yd a n = Yd a n) /\ (∀ (n : Int), Ud a n = Ud a n) /\ (∀ (n : Int), Ac a n = Ac a n) /\ zB = zB /\ (∀ (n : Int), false =
 false) /\ (∀ (n : Int), false = false) /\ GoOk a.f (Vo a)) /\ bif decide (vM a) then ((0 : Int) <= z_Frz_34 /\ vM a) /\ (Uc a = Uc a /\ (Tq a).length = Vu a /\ (∀ (i : Nat), i < (AJ
 (vT a).length λ (i : Nat) => gD (vT a) i).length -> gD (Tq a) i = Uk a i) /\ Ai a = Ai a /\ (Tj a).length = Vf a /\ (∀ (i : Nat), i < (tI a).length -> (oP a
 i).length = wB a i /\ (∀ (i_1 : Nat), i_1 < (gD (tI a) i).of.length -> gD (oP a i) i_1 = uP a i i_1) /\ (Xe a i).ba = tV a i /\ (Xe a i).mi = nR a i) /\ zI = zI /\ (∀ (n : Int),
 Xp a n = Xp a n) /\ (∀ (n : Int), Vj a n = Vj a n) /\ (∀ (n : Int), YT a n = YT a n) /\ zB = zB /\ sF a /\ sF a /\ GoOk a.f (LnI.mk (Ln.mk (Tj a) (Tq a) (Ai a)
 (Rm.mk (QS a).h (λ (n : Int) => YT a n) (QS a).s) (MU a).m) (Uc a))) /\ False else (∃ (a_1 : Nat), (NU /\ To /\ PK a /\ pQ a_1 /\ a.lv.v.length = Vu a /\ (∀ (i :
 Nat), i < a.lv.v.length -> gD a.lv.v i = Uk a i) /\ a.lv.w = Ai a /\ zI = zI /\ (∀ (n : Int), (gY a.lv).r.h n = Xp a n) /\ (∀ (n : Int), (gY a.lv).r.s n = Vj a n) /\ (∀ (n : Int), (gY a.lv).r.g n =
 YT a n) /\ zB = zB /\ qD a /\ qD a /\ a.l.length = Vf a /\ ∀ (i : Nat), i < a.l.length -> (gD a.l i).of.length = wB a i /\ (∀ (i_1 : Nat), Um i_1 a i -> Dj a i i_1 = uP a i i_1) /\
 (gD a.l i).ba = tV a i /\ (gD a.l i).mi = nR a i) /\ YW a_1 a) /\ aF a else (∃ (a_1 : Nat), (NU /\ To /\ PK a /\ pQ a_1 /\ a.lv.v.length = Tz a /\ (∀ (i : Nat), i <
 a.lv.v.length -> gD a.lv.v i = Ur a i) /\ a.lv.w = Az a /\ zI = zI /\ (∀ (n : Int), (gY a.lv).r.h n = Yd a n) /\ (∀ (n : Int), (gY a.lv).r.s n = Ud a n) /\ (∀ (n : Int), (gY a.lv).r.g n = Ac a
 n) /\ zB = zB /\ eK a /\ eK a /\ sU a /\ sN a) /\ YW a_1 a) /\ aF a) := by kernel_rfl
theorem AYW (a : FA) : FA.mk a.f a.l a.v = a := rfl
theorem BBM (a : FA) (r : Rm) : LnI.res a.f ⟨⟨a.l, a.lv.v, a.lv.w, r, λ _ => false⟩, 2 * gD a.v 0 + 1⟩ = (laG a.lv r).getD default := rfl
theorem BJG (a : FA) (h : FzOk a) : AWJ a := by
 obtain ⟨e1, e2, l1, l2, h1, hf, hx⟩ := sL h.la.r
 have hk := h.la.k
 have hin : 0 <= gD a.v 0 := h.la.r.inn.1
 have hkw : IntKind.i64.wrap (IntKind.i64.wrap (2 * gD a.v (Int.toNat 0)) + 1) = 2 * gD a.v 0 + 1 := by
  rw [show IntKind.i64.wrap (2 * gD a.v (Int.toNat 0)) = 2 * gD a.v 0 from JA (n := 2 * gD a.v 0) (by omega) (by omega)]; exact JA (by omega) (by omega)
 have e : laG a.lv (wM a.lv).r = some (false, gY a.lv) := h.three
 have hv1 : a.lv.v.length = 1 := rfl
 have w1 : ∀ i : Nat, i < a.l.length -> IntKind.i64.wrap (2 * (i : Int)) = 2 * i := λ i hi => JA (by omega) (by omega)
 have w2 : ∀ i : Nat, i < a.l.length -> IntKind.i64.wrap (2 * (i : Int) + 1) = 2 * i + 1 := λ i hi => JA (by omega) (by omega)
 rw [BAX]; delta iA VG zR Vt yL Uw kC Dj kA mJ pR We rG rN tY Xy Wq vH Tz Ur Ub rZ Az Ui vS Vg sV nH SH Yd Ud Ac pS Vo z_Frz_34 vM Uc MU tG Vu Uk Tq oU nW vT Ai uG Vf ZK Tj vK tI Xe oP tX wB uP tV nR QS Xp Vj YT Uh sF NU To PK pQ qD Um YW qO Wo ZV qE NT PH NV FQ sU sN oO qK qZ nP sC Wy sD vZ sK ZG Af YS Ax Ao Aq rU oD vW cI Br En fC eG Ce dD fE cE aF eK; simp only [BF, eq_self, implies_true, and_self, true_and, and_true, true_implies, forall_const, decide_eq_true_eq, decide_eq_false_iff_not, Int.toNat_natCast, dSpan_eSpan, dInt_eInt, AV, BH, BJ, BC, AZ, AX, AY, Nat.zero_add, Int.zero_sub, Nat.le_eq, Nat.succ_eq_add_one, Nat.add_one_le_iff, Bool.not_eq_true', Bool.not_eq_false', rng_length, AT, AP, qX, AGO, AGG, ACI, AGJ, AFQ, hkw, AYW, BBM, e, Option.getD_some]
 have w0 : IntKind.i64.wrap (0 + 1) = 1 := JA (by omega) (by omega)
 rw [w0]
 refine ⟨h.la, λ _ => ⟨⟨by omega, by omega⟩, ⟨⟨l1, l2⟩, h.la.la.wo, ⟨show 0 <= 2 * gD a.v 0 + 1 by omega, show 2 * gD a.v 0 + 1 < 2 * (a.l.length : Int) by omega⟩, ?_⟩, λ h0 => absurd h0 (by omega), λ _ => ⟨⟨0, rfl, Nat.zero_le _, rfl⟩, λ k hk2 => ⟨λ hlt => ?_, λ hge => ?_⟩, λ k hk2 => ⟨λ hlt => ?_, λ hge => ?_⟩⟩⟩, λ h0 => absurd h0 (by omega)⟩
 ·show (laG a.lv (wM a.lv).r).isSome = true
  rw [e]; rfl
 ·have hlt : k < a.l.length := by omega
  obtain ⟨_, h0⟩ := hk2
  simp only [w1 k hlt, w2 k hlt]
  refine ⟨⟨hv1, λ _ => rfl, λ _ => rfl⟩, λ hb => ?_, λ hb => ?_⟩
  ·have hb : SK a.lv k = true := hb
   have eq : DG (SK a.lv) (k + 1) = [(k : Int)] := by simp only [DG, hb, h0]; rfl
   refine ⟨⟨by omega, by omega, by omega, by omega, by omega⟩, k + 1, ⟨by rw [eq]; rfl, (CE (by omega)).symm, by rw [eq]; rfl, λ i hi => ?_⟩, ⟨hlt, by rw [eq]; exact Nat.one_pos⟩, by omega⟩
   rw [eq] at hi ⊢
   have hi : i < 1 := hi
   obtain rfl : i = 0 := by omega
   rfl
  ·have hb : SK a.lv k = false := hb
   exact ⟨k + 1, (CE (by omega)).symm, ⟨hlt, by simp only [DG, hb, h0]; rfl⟩, by omega⟩
 ·obtain rfl : k = a.l.length := by omega
  rw [hk2.2]; rfl
 ·have hlt : k < a.l.length := by omega
  obtain ⟨_, h0⟩ := hk2
  have hn := vG (SK a.lv) k
  simp only [w1 k hlt, w2 k hlt]
  refine ⟨⟨hv1, λ _ => rfl, λ _ => rfl⟩, λ hb => ?_, λ hb => ?_⟩
  ·have hb : SK a.lv k = true := hb
   have eq : DG (SK a.lv) (k + 1) = DG (SK a.lv) k ++ [(k : Int)] := by simp only [DG, hb]; rfl
   have el : (DG (SK a.lv) (k + 1)).length = (DG (SK a.lv) k).length + 1 := by rw [eq]; simp
   refine ⟨⟨by omega, (λ h => by cases h), by omega, by omega⟩, k + 1, ⟨el, (CE (by omega)).symm, el, λ i hi => ?_⟩, ⟨hlt, by omega⟩, by omega⟩
   rw [el] at hi
   rw [eq]; exact Cs _ _ hi
  ·have hb : SK a.lv k = false := hb
   have eq : DG (SK a.lv) (k + 1) = DG (SK a.lv) k := by simp only [DG, hb]; rfl
   exact ⟨k + 1, ⟨by rw [eq], (CE (by omega)).symm, by rw [eq], λ i _ => by rw [eq]⟩, ⟨hlt, by rw [eq]; exact h0⟩, by omega⟩
 ·obtain rfl : k = a.l.length := by omega
  exact ⟨rfl, Nat.le_refl _, λ _ _ => rfl⟩
end Go.Bal
