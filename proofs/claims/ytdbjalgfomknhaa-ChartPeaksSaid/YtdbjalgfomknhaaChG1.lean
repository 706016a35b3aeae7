/- Package chart: the order of notes, fewer than 13. Turned from RatR. -/
import Derived.Test.YtdbjalgfomknhaaChD3
set_option linter.unusedVariables false
set_option linter.unusedSimpArgs false
namespace Go.Bal
open Go Go.Sym Go.Proofs
def V_nanC (x : Int) : Prop := fnVC Try.prog (ann 6 []) F_nanC (bodyOf F_nanC) (xI1 x) (heapOf []) (.bool false) [] [] []
theorem vc_nanC (x : Int) : (V_nanC x) = (false = (x != x)) := by kernel_rfl
def s_nanC := pD dI1 λ _ => .bool false
theorem ok_nanC : SpecOk Try.prog n_nanC s_nanC := pD_ok xI1 hI1 λ g _ => fnt (A := ann 6 []) (ren := []) (fz := []) fn_nanC (by kernel_rfl) gok_nil (by
 show V_nanC g; rw [vc_nanC]; simp)
def cmpM (a b : Int) : Int := bif decide (a < b) then -1 else bif decide (a > b) then 1 else 0
def V_cmpI (x : I2) : Prop := fnVC Try.prog (ann 20 [(n_nanC, s_nanC)]) F_cmpI (bodyOf F_cmpI) (xI2 x) (heapOf []) (.int (cmpM x.a x.b)) [] [] []
theorem vc_cmpI (x : I2) : (V_cmpI x) = (bif decide (x.a < x.b) then cmpM x.a x.b = -1 else bif decide (x.a > x.b) then cmpM x.a x.b = 1 else cmpM x.a x.b = 0) := by kernel_rfl
def s_cmpI := pD dI2 λ x => .int (cmpM x.a x.b)
theorem ok_cmpI : SpecOk Try.prog n_cmpI s_cmpI := pD_ok xI2 hI2 λ g _ => fnt (A := ann 20 [(n_nanC, s_nanC)]) (ren := []) (fz := []) fn_cmpI (by kernel_rfl) (gok_cons ok_nanC gok_nil) (by
 show V_cmpI g; rw [vc_cmpI]; unfold cmpM; by_cases h : g.a < g.b <;> by_cases h2 : g.b < g.a <;> simp [h, h2])
structure GAB where
 g : Cht
 a : Int
 b : Int
def keyG (c : Cht) (x : Int) : Int := (gD c.ns x.toNat).mi
def bxG (c : Cht) : AObj := chB c
def dGAB : List AVal -> Heap -> Option (GAB × List (Nat × Nat) × List Nat)
 | [.d x, .d y, .bptr id _], H => match decChB H id with
  | some q => some (⟨q, dInt x, dInt y⟩, [(100, id)], [])
  | none => none
 | _, _ => none
def C_fw1 : Ctr := { ro := [100], α := GAB, xs := λ a => [.int a.a, .int a.b, .bptr 100 0], L := λ a => [(100, bxG a.g)], val := λ a => .int (cmpM (keyG a.g a.a) (keyG a.g a.b)), keep := λ a => [(100, .live (bxG a.g))], pre := λ a => [(0 <= a.a /\ a.a < a.g.ns.length) /\ 0 <= a.b /\ a.b < a.g.ns.length] }
def A_fw1 : Ann := { ann 19 [(n_cmpI, s_cmpI)] with E := [100] }
def V_fw1 (a : GAB) : Prop := fnVC Try.prog A_fw1 F_few1 (bodyOf F_few1) (C_fw1.xs a) (heapOf (C_fw1.L a)) (C_fw1.val a) (C_fw1.keep a) [] []
theorem vc_fw1 (a : GAB) : (V_fw1 a) = (((0 <= a.a /\ a.a < (↑a.g.ns.length : Int)) /\ 0 <= a.b /\ a.b < (↑a.g.ns.length : Int)) /\ cmpM (keyG a.g a.a) (keyG a.g a.b) = cmpM (gD a.g.ns a.a.toNat).mi (gD a.g.ns a.b.toNat).mi /\
 a.g.p.lo = a.g.p.lo /\ a.g.p.hi = a.g.p.hi /\ a.g.base = a.g.base /\ a.g.scale = a.g.scale /\ a.g.off = a.g.off /\ a.g.ms.length = a.g.ms.length /\ (∀ (i : Nat), i < a.g.ms.length -> (gD a.g.ms i).pl = (gD a.g.ms i).pl /\ (gD
 a.g.ms i).ht = (gD a.g.ms i).ht) /\ a.g.ns.length = a.g.ns.length /\ ∀ (i : Nat), i < a.g.ns.length -> (gD a.g.ns i).mi = (gD a.g.ns i).mi /\ (gD a.g.ns i).t.lo = (gD a.g.ns i).t.lo /\ (gD a.g.ns i).t.hi = (gD a.g.ns i).t.hi
 /\ (gD a.g.ns i).s.lo = (gD a.g.ns i).s.lo /\ (gD a.g.ns i).s.hi = (gD a.g.ns i).s.hi) := by kernel_rfl
def rowI (l : List Int) : AObj := .row 1 l.length λ i => eInt (gD l i)
def rowIn (n : Nat) (l : List Int) : AObj := .row 1 n λ i => eInt (gD l i)
def swL (l : List Int) (j : Nat) : List Int := (l.set j (gD l (j + 1))).set (j + 1) (gD l j)
def insJ (key : Int -> Int) : Nat -> List Int -> List Int
 | 0, l => l
 | j + 1, l => bif decide (cmpM (key (gD l (j + 1))) (key (gD l j)) < 0) then insJ key j (swL l j) else l
def stR (key : Int -> Int) : Nat -> Nat -> List Int -> List Int
 | 0, _, l => l
 | n + 1, i, l => stR key n (i + 1) (insJ key i l)
def stM (key : Int -> Int) (l : List Int) : List Int := stR key (l.length - 1) 1 l
structure GL where
 g : Cht
 l : List Int
 a : Int
 b : Int
structure IL2 where
 i : Nat
 l : List Int
 deriving Inhabited
structure IJL where
 i : Nat
 j : Nat
 l : List Int
 deriving Inhabited
def fnW1 : AVal := .fn (.func n_few1) [] [.bptr 101 0]
def glK (a : GL) (l : List Int) : List (Nat × HCell) := [(100, .live (rowIn a.l.length l)), (101, .live (bxG a.g))]
def glIn (a : GL) (l : List Int) : Prop := l.length = a.l.length /\ ∀ i, i < a.l.length -> 0 <= gD l i /\ gD l i < a.g.ns.length
def glOk (a : GL) : Prop := a.l.length < 1073741824 /\ ∀ i, i < a.l.length -> 0 <= gD a.l i /\ gD a.l i < a.g.ns.length
def dGL : List AVal -> Heap -> Option (GL × List (Nat × Nat) × List Nat)
 | [.own id _ _ n, .d x, .d y, .fn (.func f) [] [.bptr c _]], H => if f = n_few1 then match H id, decChB H c with
  | .live (.row _ m r), some q => some (⟨q, rng n λ i => dInt (r i), dInt x, dInt y⟩, [(100, id), (101, c)], [])
  | _, _ => none else none
 | _, _ => none
def C_ins : Ctr := { ro := [101], α := GL, xs := λ a => [.own 100 1 0 a.l.length, .int a.a, .int a.b, fnW1], L := λ a => [(100, rowI a.l), (101, bxG a.g)], val := λ _ => .d (.tup []), keep := λ a => glK a (stM (keyG a.g) a.l), pre := λ a => [(a.a = 0 /\ a.b = a.l.length) /\ glOk a] }
def ins1 (a : GL) : Shape := { α := IL2, dflt := default, T := λ x => ⟨[(0, .own 100 1 0 a.l.length), (1, .int 0), (2, .int a.l.length), (3, fnW1), (8, .int x.i)], glK a x.l⟩, inv := λ x => 1 <= x.i /\ (x.i <= a.l.length ∨ x.i = 1) /\ glIn a x.l /\ stM (keyG a.g) a.l = stR (keyG a.g) (a.l.length - x.i) x.i x.l, meas := λ x => a.l.length - x.i }
def ins4 (a : GL) (m : Nat) : Shape := { α := IJL, dflt := default, T := λ x => ⟨[(0, .own 100 1 0 a.l.length), (1, .int 0), (2, .int a.l.length), (3, fnW1), (8, .int x.i), (9, .int x.j)], glK a x.l⟩, inv := λ x => a.l.length - x.i = m /\ 1 <= x.i /\ x.i < a.l.length /\ x.j <= x.i /\ glIn a x.l /\ stM (keyG a.g) a.l = stR (keyG a.g) (a.l.length - (x.i + 1)) (x.i + 1) (insJ (keyG a.g) x.j x.l), meas := λ x => x.j }
def A_ins (a : GL) : Ann := { ann 53 [(n_few1, C_fw1.spec dGAB)] with E := [100, 101], loops := λ id => if id = 1 then some [ins1 a] else none, inner := λ gs id => if id = 4 then some [ins4 a (gs.getD 0 0)] else none }
def V_ins (a : GL) : Prop := fnVC Try.prog (A_ins a) F_insI (bodyOf F_insI) [.own 100 1 0 a.l.length, .int 0, .int a.l.length, fnW1] (heapOf (C_ins.L a)) (C_ins.val a) (C_ins.keep a) [] []
abbrev z_ins_0 : Prop := (0 : Nat) = (0 : Nat)
abbrev z_ins_1 (a : GL) : Prop := a.l.length = a.l.length
abbrev z_ins_2 : Prop := Int.ofNat (0 : Nat) = Int.ofNat (0 : Nat)
abbrev z_ins_3 (a : GL) : Prop := (↑a.l.length : Int) = (↑a.l.length : Int)
abbrev z_ins_4 (a : GL) : Prop := a.g.p.lo = a.g.p.lo
abbrev z_ins_5 (a : GL) : Prop := a.g.p.hi = a.g.p.hi
abbrev z_ins_6 (a : GL) : Prop := z_ins_4 a /\ z_ins_5 a /\ a.g.base = a.g.base /\ a.g.scale = a.g.scale /\ a.g.off = a.g.off /\ a.g.ms.length = a.g.ms.length /\ (∀ (i : Nat), i < a.g.ms.length -> (gD a.g.ms i).pl = (gD a.g.ms
 i).pl /\ (gD a.g.ms i).ht = (gD a.g.ms i).ht) /\ a.g.ns.length = a.g.ns.length /\ ∀ (i : Nat), i < a.g.ns.length -> (gD a.g.ns i).mi = (gD a.g.ns i).mi /\ (gD a.g.ns i).t.lo = (gD a.g.ns i).t.lo /\ (gD a.g.ns i).t.hi = (gD
 a.g.ns i).t.hi /\ (gD a.g.ns i).s.lo = (gD a.g.ns i).s.lo /\ (gD a.g.ns i).s.hi = (gD a.g.ns i).s.hi
abbrev z_ins_7 (a : GL) (a1 : IL2) : Nat := a.l.length - a1.i
abbrev z_ins_8 (a : IL2) (a1 : GL) : Prop := (1 : Nat) <= a.i /\ (a.i <= a1.l.length ∨ a.i = (1 : Nat)) /\ (a.l.length = a1.l.length /\ ∀ (i : Nat), i < a1.l.length -> (0 : Int) <= gD a.l i /\ gD a.l i < (↑a1.g.ns.length : Int))
 /\ stM (keyG a1.g) a1.l = stR (keyG a1.g) (z_ins_7 a1 a) a.i a.l
abbrev z_ins_9 (a : IJL) : Nat := a.i + (1 : Nat)
abbrev z_ins_10 (a : GL) (a1 : IJL) (a2 : IL2) : Prop := a.l.length - a1.i = z_ins_7 a a2 /\ (1 : Nat) <= a1.i /\ a1.i < a.l.length /\ a1.j <= a1.i /\ (a1.l.length = a.l.length /\ ∀ (i : Nat), i < a.l.length -> (0 : Int) <= gD
 a1.l i /\ gD a1.l i < (↑a.g.ns.length : Int)) /\ stM (keyG a.g) a.l = stR (keyG a.g) (a.l.length - z_ins_9 a1) (z_ins_9 a1) (insJ (keyG a.g) a1.j a1.l)
abbrev z_ins_11 (a : IJL) : Bool := decide ((↑a.j : Int) > (0 : Int))
abbrev z_ins_12 (a : IJL) : Prop := z_ins_11 a = true
abbrev z_ins_13 (a : IJL) (a1 : GL) : Prop := (0 : Int) <= (↑a.j : Int) /\ (↑a.j : Int) < (↑a1.l.length : Int)
abbrev z_ins_14 (a : IJL) : Nat := (0 : Nat) + a.j
abbrev z_ins_15 (a : IJL) : Int := IntKind.i64.wrap ((↑a.j : Int) - (1 : Int))
abbrev z_ins_16 (a : IJL) (a1 : GL) : Prop := (0 : Int) <= z_ins_15 a /\ z_ins_15 a < (↑a1.l.length : Int)
abbrev z_ins_17 (a : IJL) : Nat := (0 : Nat) + (z_ins_15 a).toNat
abbrev z_ins_18 (a : IJL) (a1 : GL) : Prop := (z_ins_17 a).succ.le a1.l.length
abbrev z_ins_19 (a : IJL) : Int := gD a.l (z_ins_14 a)
abbrev z_ins_20 (a : IJL) : Int := gD a.l (z_ins_17 a)
abbrev z_ins_21 (a : GL) : List Mk := rng a.g.ms.length λ (i : Nat) => gD a.g.ms i
abbrev z_ins_22 (a : GL) : Nat := (z_ins_21 a).length
abbrev z_ins_23 (a : GL) (i : Nat) : Mk := gD (z_ins_21 a) i
abbrev z_ins_24 (a : GL) (i : Nat) : Int := (z_ins_23 a i).pl
abbrev z_ins_25 (a : GL) (i : Nat) : Int := (z_ins_23 a i).ht
abbrev z_ins_26 (a : GL) : List Nt := rng a.g.ns.length λ (i : Nat) => gD a.g.ns i
abbrev z_ins_27 (a : GL) : Nat := (z_ins_26 a).length
abbrev z_ins_28 (a : GL) (i : Nat) : Nt := gD (z_ins_26 a) i
abbrev z_ins_29 (a : GL) (i : Nat) : Int := (z_ins_28 a i).mi
abbrev z_ins_30 (a : GL) (i : Nat) : Span := (z_ins_28 a i).t
abbrev z_ins_31 (a : GL) (i : Nat) : Int := (z_ins_30 a i).lo
abbrev z_ins_32 (a : GL) (i : Nat) : Int := (z_ins_30 a i).hi
abbrev z_ins_33 (a : GL) (i : Nat) : Span := (z_ins_28 a i).s
abbrev z_ins_34 (a : GL) (i : Nat) : Int := (z_ins_33 a i).lo
abbrev z_ins_35 (a : GL) (i : Nat) : Int := (z_ins_33 a i).hi
abbrev z_ins_36 (a : GL) : Cht := Cht.mk a.g.p a.g.base a.g.scale a.g.off (z_ins_21 a) (z_ins_26 a)
abbrev z_ins_37 (a : IJL) (a1 : GL) : Prop := z_ins_14 a < a1.l.length
theorem vc_ins (a : GL) : (V_ins a) = ((∃ (a_1 : IL2), (z_ins_0 /\ z_ins_1 a /\ z_ins_2 /\ z_ins_3 a /\ (↑a_1.i : Int) = IntKind.i64.wrap ((0 : Int) + (1 : Int)) /\ z_ins_1 a /\ (∀ (i : Nat), i < a.l.length -> gD a_1.l i = gD
 a.l i) /\ z_ins_6 a) /\ z_ins_8 a_1 a) /\ ∀ (a_1 : IL2), z_ins_8 a_1 a -> bif decide ((↑a_1.i : Int) < (↑a.l.length : Int)) then (∃ (a_3 : IJL), (z_ins_0 /\ z_ins_1 a /\ z_ins_2 /\ z_ins_3 a /\ (↑a_3.i : Int) = (↑a_1.i : Int) /\
 (↑a_3.j : Int) = (↑a_1.i : Int) /\ z_ins_1 a /\ (∀ (i : Nat), i < a.l.length -> gD a_3.l i = gD a_1.l i) /\ z_ins_6 a) /\ z_ins_10 a a_3 a_1) /\ ∀ (a_3 : IJL), z_ins_10 a a_3 a_1 -> ((z_ins_12 a_3 -> z_ins_13 a_3 a) /\ (z_ins_12
 a_3 -> (z_ins_14 a_3).succ.le a.l.length) /\ (z_ins_12 a_3 -> z_ins_16 a_3 a) /\ (z_ins_12 a_3 -> z_ins_18 a_3 a) /\ (z_ins_12 a_3 -> z_ins_19 a_3 = z_ins_19 a_3 /\ z_ins_20 a_3 = z_ins_20 a_3 /\ z_ins_4 a /\ z_ins_5 a /\ a.g.base
 = a.g.base /\ a.g.scale = a.g.scale /\ a.g.off = a.g.off /\ z_ins_22 a = a.g.ms.length /\ (∀ (i : Nat), i < z_ins_22 a -> z_ins_24 a i = (gD a.g.ms i).pl /\ z_ins_25 a i = (gD a.g.ms i).ht) /\ z_ins_27 a = a.g.ns.length /\ (∀ (i
 : Nat), i < z_ins_27 a -> z_ins_29 a i = (gD a.g.ns i).mi /\ z_ins_31 a i = (gD a.g.ns i).t.lo /\ z_ins_32 a i = (gD a.g.ns i).t.hi /\ z_ins_34 a i = (gD a.g.ns i).s.lo /\ z_ins_35 a i = (gD a.g.ns i).s.hi) /\ z_ins_4 a /\
 z_ins_5 a /\ a.g.base = a.g.base /\ a.g.scale = a.g.scale /\ a.g.off = a.g.off /\ a.g.ms.length = z_ins_22 a /\ (∀ (i : Nat), i < a.g.ms.length -> (gD a.g.ms i).pl = z_ins_24 a i /\ (gD a.g.ms i).ht = z_ins_25 a i) /\
 a.g.ns.length = z_ins_27 a /\ (∀ (i : Nat), i < a.g.ns.length -> (gD a.g.ns i).mi = z_ins_29 a i /\ (gD a.g.ns i).t.lo = z_ins_31 a i /\ (gD a.g.ns i).t.hi = z_ins_32 a i /\ (gD a.g.ns i).s.lo = z_ins_34 a i /\ (gD a.g.ns
 i).s.hi = z_ins_35 a i) /\ ((0 : Int) <= z_ins_19 a_3 /\ z_ins_19 a_3 < (↑(z_ins_27 a) : Int)) /\ (0 : Int) <= z_ins_20 a_3 /\ z_ins_20 a_3 < (↑(z_ins_27 a) : Int))) /\ bif bif z_ins_11 a_3 then decide (cmpM (keyG (z_ins_36 a)
 (z_ins_19 a_3)) (keyG (z_ins_36 a) (z_ins_20 a_3)) < (0 : Int)) else false then (z_ins_16 a_3 a /\ z_ins_17 a_3 < a.l.length /\ z_ins_13 a_3 a /\ z_ins_37 a_3 a /\ z_ins_13 a_3 a /\ z_ins_37 a_3 a /\ z_ins_16 a_3 a /\ z_ins_18
 a_3 a) /\ ∃ (a_5 : IJL), (z_ins_0 /\ z_ins_1 a /\ z_ins_2 /\ z_ins_3 a /\ (↑a_5.i : Int) = (↑a_3.i : Int) /\ (↑a_5.j : Int) = z_ins_15 a_3 /\ z_ins_1 a /\ (∀ (i : Nat), i < a.l.length -> gD a_5.l i = bif decide (i = z_ins_17 a_3)
 then z_ins_19 a_3 else bif decide (i = z_ins_14 a_3) then z_ins_20 a_3 else gD a_3.l i) /\ z_ins_6 a) /\ z_ins_10 a a_5 a_1 /\ a_5.j < a_3.j else ∃ (a_5 : IL2), (z_ins_0 /\ z_ins_1 a /\ z_ins_2 /\ z_ins_3 a /\ (↑a_5.i : Int) =
 IntKind.i64.wrap ((↑a_3.i : Int) + (1 : Int)) /\ z_ins_1 a /\ (∀ (i : Nat), i < a.l.length -> gD a_5.l i = gD a_3.l i) /\ z_ins_6 a) /\ z_ins_8 a_5 a /\ z_ins_7 a a_5 < z_ins_7 a a_1 else z_ins_1 a /\ (∀ (i : Nat), i <
 a.l.length -> gD (stM (keyG a.g) a.l) i = gD a_1.l i) /\ z_ins_6 a) := by kernel_rfl
def dLenU : List AVal -> Option Int
 | [.d (.v (.int .u64 a))] => some a
 | _ => none
def xLenU (a : Int) : List AVal := [.d (.v (.int .u64 a))]
def V_len64 (x : Int) : Prop := fnVC Try.prog (ann 25 []) F_bLen64 (bodyOf F_bLen64) (xLenU x) (heapOf []) .any [] [] []
abbrev z_len64_0 (x : Int) : Int := x / (2 : Int) ^ Int.toNat (32 : Int)
abbrev z_len64_1 : Prop := (0 : Int) <= (16 : Int) /\ (16 : Int) <= (↑(64 : Nat) : Int)
abbrev z_len64_2 : Int := (2 : Int) ^ Int.toNat (16 : Int)
abbrev z_len64_3 : Prop := (0 : Int) <= (8 : Int) /\ (8 : Int) <= (↑(64 : Nat) : Int)
abbrev z_len64_4 (x : Int) : Int := x / (2 : Int) ^ (32 : Nat)
abbrev z_len64_5 : Int := (2 : Int) ^ (16 : Nat)
abbrev z_len64_6 (x : Int) : Int := z_len64_4 x / z_len64_5
abbrev z_len64_7 : Int := (2 : Int) ^ (8 : Nat)
abbrev z_len64_8 (x : Int) : Int := IntKind.u8.wrap (z_len64_6 x / z_len64_7)
abbrev z_len64_9 (x : Int) : Int := IntKind.u8.wrap (z_len64_6 x)
abbrev z_len64_10 (x : Int) : Int := IntKind.u8.wrap (z_len64_4 x / z_len64_7)
abbrev z_len64_11 (x : Int) : Int := IntKind.u8.wrap (z_len64_4 x)
abbrev z_len64_12 (x : Int) : Int := x / z_len64_5
abbrev z_len64_13 (x : Int) : Int := IntKind.u8.wrap (z_len64_12 x / z_len64_7)
abbrev z_len64_14 (x : Int) : Int := IntKind.u8.wrap (z_len64_12 x)
abbrev z_len64_15 (x : Int) : Int := IntKind.u8.wrap (x / z_len64_7)
theorem vc_len64 (x : Int) : (V_len64 x) = (bif decide (x >= (4294967296 : Int)) then ((0 : Int) <= (32 : Int) /\ (32 : Int) <= (↑(64 : Nat) : Int)) /\ bif decide (z_len64_0 x >= (65536 : Int)) then z_len64_1 /\ bif decide
 (z_len64_0 x / z_len64_2 >= (256 : Int)) then z_len64_3 /\ ((0 : Int) <= z_len64_8 x /\ z_len64_8 x < (↑(256 : Nat) : Int)) /\ True else ((0 : Int) <= z_len64_9 x /\ z_len64_9 x < (↑(256 : Nat) : Int)) /\ True else bif decide
 (z_len64_0 x >= (256 : Int)) then z_len64_3 /\ ((0 : Int) <= z_len64_10 x /\ z_len64_10 x < (↑(256 : Nat) : Int)) /\ True else ((0 : Int) <= z_len64_11 x /\ z_len64_11 x < (↑(256 : Nat) : Int)) /\ True else bif decide (x >=
 (65536 : Int)) then z_len64_1 /\ bif decide (x / z_len64_2 >= (256 : Int)) then z_len64_3 /\ ((0 : Int) <= z_len64_13 x /\ z_len64_13 x < (↑(256 : Nat) : Int)) /\ True else ((0 : Int) <= z_len64_14 x /\ z_len64_14 x < (↑(256 :
 Nat) : Int)) /\ True else bif decide (x >= (256 : Int)) then z_len64_3 /\ ((0 : Int) <= z_len64_15 x /\ z_len64_15 x < (↑(256 : Nat) : Int)) /\ True else ((0 : Int) <= IntKind.u8.wrap x /\ IntKind.u8.wrap x < (↑(256 : Nat) :
 Int)) /\ True) := by kernel_rfl
def s_len := pD dLenU (λ _ => .any) (λ x => [0 <= x /\ x <= 20])
def V_len (x : Int) : Prop := fnVC Try.prog (ann 8 [(n_bLen64, s_len)]) F_bLen (bodyOf F_bLen) (xLenU x) (heapOf []) .any [] [] []
theorem vc_len (x : Int) : (V_len x) = ((0 <= x /\ x <= 20) /\ True) := by kernel_rfl
def dGLp : List AVal -> Heap -> Option (GL × List (Nat × Nat) × List Nat)
 | [.own id _ _ n, .d x, .d y, _, .fn (.func f) [] [.bptr c _]], H => if f = n_few1 then match H id, decChB H c with
  | .live (.row _ m r), some q => some (⟨q, rng n λ i => dInt (r i), dInt x, dInt y⟩, [(100, id), (101, c)], [])
  | _, _ => none else none
 | _, _ => none
def C_pdq : Ctr := { ro := [101], α := GL, xs := λ a => [.own 100 1 0 a.l.length, .int a.a, .int a.b, .any, fnW1], L := λ a => [(100, rowI a.l), (101, bxG a.g)], val := λ _ => .d (.tup []), keep := λ a => glK a (stM (keyG a.g) a.l), pre := λ a => [((a.a = 0 /\ a.b = a.l.length) /\ a.l.length <= 12) /\ glOk a] }
def pq2 (a : GL) : Shape := { α := One, dflt := default, T := λ _ => ⟨[(0, .own 100 1 0 a.l.length), (1, .int 0), (2, .int a.l.length), (3, .any), (4, fnW1), (10, .bool true), (11, .bool true)], glK a a.l⟩, inv := λ _ => True, meas := λ _ => 0 }
def A_pdq (a : GL) : Ann := { ann 148 [(n_insI, C_ins.spec dGL)] with E := [100, 101], loops := λ id => if id = 2 then some [pq2 a] else none }
def V_pdq (a : GL) : Prop := fnVC Try.prog (A_pdq a) F_pdq (bodyOf F_pdq) [.own 100 1 0 a.l.length, .int 0, .int a.l.length, .any, fnW1] (heapOf (C_pdq.L a)) (C_pdq.val a) (C_pdq.keep a) [] []
abbrev z_pdq_0 : Prop := (0 : Nat) = (0 : Nat)
abbrev z_pdq_1 (a : GL) : Prop := a.l.length = a.l.length
abbrev z_pdq_2 (a : GL) : Prop := (↑a.l.length : Int) = (↑a.l.length : Int)
abbrev z_pdq_3 (a : GL) : Prop := a.g.p.lo = a.g.p.lo
abbrev z_pdq_4 (a : GL) : Prop := a.g.p.hi = a.g.p.hi
abbrev z_pdq_5 (a : GL) : Prop := z_pdq_3 a /\ z_pdq_4 a /\ a.g.base = a.g.base /\ a.g.scale = a.g.scale /\ a.g.off = a.g.off /\ a.g.ms.length = a.g.ms.length /\ (∀ (i : Nat), i < a.g.ms.length -> (gD a.g.ms i).pl = (gD a.g.ms
 i).pl /\ (gD a.g.ms i).ht = (gD a.g.ms i).ht) /\ a.g.ns.length = a.g.ns.length /\ ∀ (i : Nat), i < a.g.ns.length -> (gD a.g.ns i).mi = (gD a.g.ns i).mi /\ (gD a.g.ns i).t.lo = (gD a.g.ns i).t.lo /\ (gD a.g.ns i).t.hi = (gD
 a.g.ns i).t.hi /\ (gD a.g.ns i).s.lo = (gD a.g.ns i).s.lo /\ (gD a.g.ns i).s.hi = (gD a.g.ns i).s.hi
abbrev z_pdq_6 (a : GL) : List Int := rng a.l.length λ (i : Nat) => gD a.l i
abbrev z_pdq_7 (a : GL) : Nat := (z_pdq_6 a).length
abbrev z_pdq_8 (a : GL) : Prop := z_pdq_7 a = a.l.length
abbrev z_pdq_9 : Prop := (0 : Int) = Int.ofNat (0 : Nat)
abbrev z_pdq_10 (i : Nat) (a : GL) : Prop := i < z_pdq_7 a
abbrev z_pdq_11 (a : GL) (i : Nat) : Int := gD (z_pdq_6 a) i
abbrev z_pdq_12 (a : GL) : List Mk := rng a.g.ms.length λ (i : Nat) => gD a.g.ms i
abbrev z_pdq_13 (a : GL) : Nat := (z_pdq_12 a).length
abbrev z_pdq_14 (a : GL) (i : Nat) : Mk := gD (z_pdq_12 a) i
abbrev z_pdq_15 (a : GL) (i : Nat) : Int := (z_pdq_14 a i).pl
abbrev z_pdq_16 (a : GL) (i : Nat) : Int := (z_pdq_14 a i).ht
abbrev z_pdq_17 (a : GL) : List Nt := rng a.g.ns.length λ (i : Nat) => gD a.g.ns i
abbrev z_pdq_18 (a : GL) : Nat := (z_pdq_17 a).length
abbrev z_pdq_19 (a : GL) (i : Nat) : Nt := gD (z_pdq_17 a) i
abbrev z_pdq_20 (a : GL) (i : Nat) : Int := (z_pdq_19 a i).mi
abbrev z_pdq_21 (a : GL) (i : Nat) : Span := (z_pdq_19 a i).t
abbrev z_pdq_22 (a : GL) (i : Nat) : Int := (z_pdq_21 a i).lo
abbrev z_pdq_23 (a : GL) (i : Nat) : Int := (z_pdq_21 a i).hi
abbrev z_pdq_24 (a : GL) (i : Nat) : Span := (z_pdq_19 a i).s
abbrev z_pdq_25 (a : GL) (i : Nat) : Int := (z_pdq_24 a i).lo
abbrev z_pdq_26 (a : GL) (i : Nat) : Int := (z_pdq_24 a i).hi
theorem vc_pdq (a : GL) : (V_pdq a) = ((∃ (a_1 : One), (z_pdq_0 /\ z_pdq_1 a /\ Int.ofNat (0 : Nat) = Int.ofNat (0 : Nat) /\ z_pdq_2 a /\ true = true /\ true = true /\ z_pdq_1 a /\ (∀ (i : Nat), i < a.l.length -> gD a.l i = gD
 a.l i) /\ z_pdq_5 a) /\ True) /\ ∀ (a_1 : One), True -> bif decide (IntKind.i64.wrap ((↑a.l.length : Int) - (0 : Int)) <= (12 : Int)) then (z_pdq_0 /\ z_pdq_8 a /\ z_pdq_9 /\ z_pdq_2 a /\ z_pdq_8 a /\ (∀ (i : Nat), z_pdq_10 i a ->
 z_pdq_11 a i = gD a.l i) /\ z_pdq_3 a /\ z_pdq_4 a /\ a.g.base = a.g.base /\ a.g.scale = a.g.scale /\ a.g.off = a.g.off /\ z_pdq_13 a = a.g.ms.length /\ (∀ (i : Nat), i < z_pdq_13 a -> z_pdq_15 a i = (gD a.g.ms i).pl /\ z_pdq_16
 a i = (gD a.g.ms i).ht) /\ z_pdq_18 a = a.g.ns.length /\ (∀ (i : Nat), i < z_pdq_18 a -> z_pdq_20 a i = (gD a.g.ns i).mi /\ z_pdq_22 a i = (gD a.g.ns i).t.lo /\ z_pdq_23 a i = (gD a.g.ns i).t.hi /\ z_pdq_25 a i = (gD a.g.ns
 i).s.lo /\ z_pdq_26 a i = (gD a.g.ns i).s.hi) /\ z_pdq_3 a /\ z_pdq_4 a /\ a.g.base = a.g.base /\ a.g.scale = a.g.scale /\ a.g.off = a.g.off /\ a.g.ms.length = z_pdq_13 a /\ (∀ (i : Nat), i < a.g.ms.length -> (gD a.g.ms i).pl =
 z_pdq_15 a i /\ (gD a.g.ms i).ht = z_pdq_16 a i) /\ a.g.ns.length = z_pdq_18 a /\ (∀ (i : Nat), i < a.g.ns.length -> (gD a.g.ns i).mi = z_pdq_20 a i /\ (gD a.g.ns i).t.lo = z_pdq_22 a i /\ (gD a.g.ns i).t.hi = z_pdq_23 a i /\
 (gD a.g.ns i).s.lo = z_pdq_25 a i /\ (gD a.g.ns i).s.hi = z_pdq_26 a i) /\ (z_pdq_9 /\ (↑a.l.length : Int) = (↑(z_pdq_7 a) : Int)) /\ z_pdq_7 a < (1073741824 : Nat) /\ ∀ (i : Nat), z_pdq_10 i a -> (0 : Int) <= z_pdq_11 a i /\
 z_pdq_11 a i < (↑(z_pdq_18 a) : Int)) /\ a.l.length = z_pdq_7 a /\ (∀ (i : Nat), i < a.l.length -> gD (stM (keyG a.g) a.l) i = gD (stM (keyG (Cht.mk a.g.p a.g.base a.g.scale a.g.off (z_pdq_12 a) (z_pdq_17 a))) (z_pdq_6 a))
 i) /\ z_pdq_5 a else False) := by kernel_rfl
def dGLt : List AVal -> Heap -> Option (GL × List (Nat × Nat) × List Nat)
 | [.own id _ _ n, .fn (.func f) [] [.bptr c _]], H => if f = n_few1 then match H id, decChB H c with
  | .live (.row _ m r), some q => some (⟨q, rng n λ i => dInt (r i), 0, 0⟩, [(100, id), (101, c)], [])
  | _, _ => none else none
 | _, _ => none
def C_sort : Ctr := { ro := [101], α := GL, xs := λ a => [.own 100 1 0 a.l.length, fnW1], L := λ a => [(100, rowI a.l), (101, bxG a.g)], val := λ _ => .d (.tup []), keep := λ a => glK a (stM (keyG a.g) a.l), pre := λ a => [a.l.length <= 12 /\ glOk a] }
def A_sort : Ann := { ann 14 [(n_bLen, s_len), (n_pdq, C_pdq.spec dGLp)] with E := [100, 101] }
def V_sort (a : GL) : Prop := fnVC Try.prog A_sort F_sortI (bodyOf F_sortI) (C_sort.xs a) (heapOf (C_sort.L a)) (C_sort.val a) (C_sort.keep a) [] []
theorem vc_sort (a : GL) : (V_sort a) = ((((0 : Int) <= IntKind.u64.wrap (↑a.l.length : Int) /\ IntKind.u64.wrap (↑a.l.length : Int) <= (20 : Int)) /\ (0 : Nat) = (0 : Nat) /\ (rng a.l.length λ (i : Nat) => gD a.l i).length
 = a.l.length /\ (0 : Int) = Int.ofNat (0 : Nat) /\ (↑a.l.length : Int) = (↑a.l.length : Int) /\ (rng a.l.length λ (i : Nat) => gD a.l i).length = a.l.length /\ (∀ (i : Nat), i < (rng a.l.length λ (i : Nat) => gD a.l
 i).length -> gD (rng a.l.length λ (i : Nat) => gD a.l i) i = gD a.l i) /\ a.g.p.lo = a.g.p.lo /\ a.g.p.hi = a.g.p.hi /\ a.g.base = a.g.base /\ a.g.scale = a.g.scale /\ a.g.off = a.g.off /\ (rng a.g.ms.length λ (i : Nat) =>
 gD a.g.ms i).length = a.g.ms.length /\ (∀ (i : Nat), i < (rng a.g.ms.length λ (i : Nat) => gD a.g.ms i).length -> (gD (rng a.g.ms.length λ (i : Nat) => gD a.g.ms i) i).pl = (gD a.g.ms i).pl /\ (gD (rng a.g.ms.length fun
 (i : Nat) => gD a.g.ms i) i).ht = (gD a.g.ms i).ht) /\ (rng a.g.ns.length λ (i : Nat) => gD a.g.ns i).length = a.g.ns.length /\ (∀ (i : Nat), i < (rng a.g.ns.length λ (i : Nat) => gD a.g.ns i).length -> (gD (rng
 a.g.ns.length λ (i : Nat) => gD a.g.ns i) i).mi = (gD a.g.ns i).mi /\ (gD (rng a.g.ns.length λ (i : Nat) => gD a.g.ns i) i).t.lo = (gD a.g.ns i).t.lo /\ (gD (rng a.g.ns.length λ (i : Nat) => gD a.g.ns i) i).t.hi =
 (gD a.g.ns i).t.hi /\ (gD (rng a.g.ns.length λ (i : Nat) => gD a.g.ns i) i).s.lo = (gD a.g.ns i).s.lo /\ (gD (rng a.g.ns.length λ (i : Nat) => gD a.g.ns i) i).s.hi = (gD a.g.ns i).s.hi) /\ a.g.p.lo = a.g.p.lo /\ a.g.p.hi
 = a.g.p.hi /\ a.g.base = a.g.base /\ a.g.scale = a.g.scale /\ a.g.off = a.g.off /\ a.g.ms.length = (rng a.g.ms.length λ (i : Nat) => gD a.g.ms i).length /\ (∀ (i : Nat), i < a.g.ms.length -> (gD a.g.ms i).pl = (gD (rng
 a.g.ms.length λ (i : Nat) => gD a.g.ms i) i).pl /\ (gD a.g.ms i).ht = (gD (rng a.g.ms.length λ (i : Nat) => gD a.g.ms i) i).ht) /\ a.g.ns.length = (rng a.g.ns.length λ (i : Nat) => gD a.g.ns i).length /\ (∀ (i : Nat),
 i < a.g.ns.length -> (gD a.g.ns i).mi = (gD (rng a.g.ns.length λ (i : Nat) => gD a.g.ns i) i).mi /\ (gD a.g.ns i).t.lo = (gD (rng a.g.ns.length λ (i : Nat) => gD a.g.ns i) i).t.lo /\ (gD a.g.ns i).t.hi = (gD (rng
 a.g.ns.length λ (i : Nat) => gD a.g.ns i) i).t.hi /\ (gD a.g.ns i).s.lo = (gD (rng a.g.ns.length λ (i : Nat) => gD a.g.ns i) i).s.lo /\ (gD a.g.ns i).s.hi = (gD (rng a.g.ns.length λ (i : Nat) => gD a.g.ns i) i).s.hi)
 /\ (((0 : Int) = Int.ofNat (0 : Nat) /\ (↑a.l.length : Int) = (↑(rng a.l.length λ (i : Nat) => gD a.l i).length : Int)) /\ (rng a.l.length λ (i : Nat) => gD a.l i).length <= (12 : Nat)) /\ (rng a.l.length λ (i : Nat) =>
 gD a.l i).length < (1073741824 : Nat) /\ ∀ (i : Nat), i < (rng a.l.length λ (i : Nat) => gD a.l i).length -> (0 : Int) <= gD (rng a.l.length λ (i : Nat) => gD a.l i) i /\ gD (rng a.l.length λ (i : Nat) => gD a.l i) i <
 (↑(rng a.g.ns.length λ (i : Nat) => gD a.g.ns i).length : Int)) /\ a.l.length = (rng a.l.length λ (i : Nat) => gD a.l i).length /\ (∀ (i : Nat), i < a.l.length -> gD (stM (keyG a.g) a.l) i = gD (stM (keyG (Cht.mk a.g.p
 a.g.base a.g.scale a.g.off (rng a.g.ms.length λ (i : Nat) => gD a.g.ms i) (rng a.g.ns.length λ (i : Nat) => gD a.g.ns i))) (rng a.l.length λ (i : Nat) => gD a.l i)) i) /\ a.g.p.lo = a.g.p.lo /\ a.g.p.hi = a.g.p.hi /\
 a.g.base = a.g.base /\ a.g.scale = a.g.scale /\ a.g.off = a.g.off /\ a.g.ms.length = a.g.ms.length /\ (∀ (i : Nat), i < a.g.ms.length -> (gD a.g.ms i).pl = (gD a.g.ms i).pl /\ (gD a.g.ms i).ht = (gD a.g.ms i).ht) /\
 a.g.ns.length = a.g.ns.length /\ ∀ (i : Nat), i < a.g.ns.length -> (gD a.g.ns i).mi = (gD a.g.ns i).mi /\ (gD a.g.ns i).t.lo = (gD a.g.ns i).t.lo /\ (gD a.g.ns i).t.hi = (gD a.g.ns i).t.hi /\ (gD a.g.ns i).s.lo = (gD a.g.ns
 i).s.lo /\ (gD a.g.ns i).s.hi = (gD a.g.ns i).s.hi) := by kernel_rfl
theorem ok_fw1 : SpecOk Try.prog n_few1 (C_fw1.spec dGAB) := okC C_fw1 (λ _ => A_fw1) [] [] fn_few1 (λ _ => by kernel_rfl) (λ _ => gok_cons ok_cmpI gok_nil) (λ (a : GAB) h => by
 show V_fw1 a; rw [vc_fw1]; simp only [condP, eq_self, implies_true, and_self, true_and, and_true, true_implies, forall_const, decide_eq_true_eq, decide_eq_false_iff_not, Int.toNat_natCast, dSpan_eSpan, dInt_eInt, dMk_e, dNt_e, dPr_e, Nat.zero_add, Int.zero_sub, Nat.le_eq, Nat.succ_eq_add_one, Nat.add_one_le_iff, Bool.not_eq_true', Bool.not_eq_false', rng_length, dSpan_mk, rng_getD]
 exact ⟨h, rfl⟩) (λ _ => noI rfl rfl) _
theorem gD_setI {l : List Int} {j i : Nat} {x : Int} (hj : j < l.length) : gD (l.set j x) i = bif decide (i = j) then x else gD l i := by
 unfold gD
 rw [List.getD_eq_getElem?_getD, List.getD_eq_getElem?_getD, List.getElem?_set]
 by_cases h : i = j
 ·subst h; simp [hj]
 ·simp [h, Ne.symm h]
theorem gD_sw {l : List Int} {j i : Nat} (hj : j + 1 < l.length) : gD (swL l j) i = bif decide (i = j) then gD l (j + 1) else bif decide (i = j + 1) then gD l j else gD l i := by
 unfold swL
 rw [gD_setI (by simpa using hj), gD_setI (by omega)]
 by_cases h : i = j
 ·subst h; simp
 ·simp [h]
theorem sw_len (l : List Int) (j : Nat) : (swL l j).length = l.length := by simp [swL]
theorem p_ins (a : GL) (h : glOk a) : V_ins a := by
 rw [vc_ins]; delta z_ins_0 z_ins_1 z_ins_2 z_ins_3 z_ins_4 z_ins_5 z_ins_6 z_ins_7 z_ins_8 z_ins_9 z_ins_10 z_ins_11 z_ins_12 z_ins_13 z_ins_14 z_ins_15 z_ins_16 z_ins_17 z_ins_18 z_ins_19 z_ins_20 z_ins_21 z_ins_22 z_ins_23 z_ins_24 z_ins_25 z_ins_26 z_ins_27 z_ins_28 z_ins_29 z_ins_30 z_ins_31 z_ins_32 z_ins_33 z_ins_34 z_ins_35 z_ins_36 z_ins_37; simp only [condP, eq_self, implies_true, and_self, true_and, and_true, true_implies, forall_const, decide_eq_true_eq, decide_eq_false_iff_not, Int.toNat_natCast, dSpan_eSpan, dInt_eInt, dMk_e, dNt_e, dPr_e, Nat.zero_add, Int.zero_sub, Nat.le_eq, Nat.succ_eq_add_one, Nat.add_one_le_iff, Bool.not_eq_true', Bool.not_eq_false', rng_length, dSpan_mk, rng_getD]
 obtain ⟨hlen, hin⟩ := h
 refine ⟨⟨⟨1, a.l⟩, ⟨by show (1 : Int) = _; rw [w64 (by omega) (by omega)]; rfl, λ _ _ => rfl⟩, Nat.one_pos, .inr rfl, ⟨rfl, hin⟩, rfl⟩, λ x ⟨x1, x2, ⟨x3, x4⟩, x5⟩ => ⟨λ hlt => ⟨⟨⟨x.i, x.i, x.l⟩, ⟨rfl, rfl, λ _ _ => rfl⟩, rfl, x1, Int.ofNat_lt.1 hlt, Nat.le_refl _, ⟨x3, x4⟩, ?_⟩, λ y ⟨y1, y2, y3, y4, ⟨y5, y6⟩, y7⟩ => ?_⟩, λ hge => ?_⟩⟩
 ·rw [x5, show a.l.length - x.i = (a.l.length - (x.i + 1)) + 1 by omega]; rfl
 ·refine ⟨⟨λ _ => ⟨by omega, by omega⟩, λ _ => by omega, λ hj => ?_, λ hj => ?_, λ hj => ⟨y6 _ (by omega), ?_⟩⟩, λ hc => ?_, λ hc => ?_⟩
  ·rw [w64 (by omega) (by omega)]; omega
  ·rw [w64 (by omega) (by omega)]; omega
  ·rw [w64 (by omega) (by omega)]; exact y6 _ (by omega)
  ·have hj : 0 < y.j := by
    cases hd : decide ((y.j : Int) > 0) with
    | false => rw [hd] at hc; cases hc
    | true => have := of_decide_eq_true hd; omega
   obtain ⟨j, hj2⟩ : ∃ j, y.j = j + 1 := ⟨y.j - 1, by omega⟩
   have e : IntKind.i64.wrap ((y.j : Int) - 1) = (j : Nat) := by rw [w64 (by omega) (by omega)]; omega
   rw [decide_eq_true (show (y.j : Int) > 0 by omega)] at hc
   have hc : decide (cmpM (keyG a.g (gD y.l y.j)) (keyG a.g (gD y.l (IntKind.i64.wrap ((y.j : Int) - 1)).toNat)) < 0) = true := hc
   rw [e] at hc ⊢
   simp only [Int.toNat_natCast] at hc ⊢
   refine ⟨⟨⟨by omega, by omega⟩, by omega, ⟨by omega, by omega⟩, by omega, ⟨by omega, by omega⟩, by omega, ⟨by omega, by omega⟩, by omega⟩, ⟨y.i, j, swL y.l j⟩, ⟨rfl, rfl, λ i hi => ?_⟩, ⟨y1, y2, y3, by show j <= y.i; omega, ⟨by rw [sw_len]; exact y5, λ i hi => ?_⟩, ?_⟩, by show j < _; omega⟩
   ·show gD (swL y.l j) i = _
    rw [gD_sw (by omega), hj2]
   ·show 0 <= gD (swL y.l j) i /\ gD (swL y.l j) i < _
    rw [gD_sw (by omega)]
    cases decide (i = j)
    ·cases decide (i = j + 1)
     ·exact y6 i hi
     ·exact y6 j (by omega)
    ·exact y6 (j + 1) (by omega)
   ·rw [hj2] at hc y7
    unfold insJ at y7
    rw [hc] at y7; exact y7
  ·have hq : insJ (keyG a.g) y.j y.l = y.l := by
    cases hd : decide ((y.j : Int) > 0) with
    | false =>
     have := of_decide_eq_false hd
     rw [show y.j = 0 by omega]; rfl
    | true =>
     have hj := of_decide_eq_true hd
     obtain ⟨j, hj2⟩ : ∃ j, y.j = j + 1 := ⟨y.j - 1, by omega⟩
     have e : IntKind.i64.wrap ((y.j : Int) - 1) = (j : Nat) := by rw [w64 (by omega) (by omega)]; omega
     rw [hd] at hc
     have hc : decide (cmpM (keyG a.g (gD y.l y.j)) (keyG a.g (gD y.l (IntKind.i64.wrap ((y.j : Int) - 1)).toNat)) < 0) = false := hc
     rw [e, hj2] at hc
     simp only [Int.toNat_natCast] at hc
     rw [hj2]; unfold insJ; rw [hc]; rfl
   rw [hq] at y7
   refine ⟨⟨y.i + 1, y.l⟩, ⟨(wsucc (by omega)).symm, λ _ _ => rfl⟩, ⟨by show 0 < y.i + 1; omega, .inl (by show y.i + 1 <= _; omega), ⟨y5, y6⟩, y7⟩, by show a.l.length - (y.i + 1) < _; omega⟩
 ·intro i hi
  rw [x5, show a.l.length - x.i = 0 by omega]; rfl
theorem ok_ins : SpecOk Try.prog n_insI (C_ins.spec dGL) := okT C_ins (λ (a : GL) h => by
 obtain ⟨⟨ha, hb⟩, h⟩ : (a.a = 0 /\ a.b = a.l.length) /\ glOk a := h
 show FnT Try.prog n_insI [.own 100 1 0 a.l.length, .int a.a, .int a.b, fnW1] _ _ _
 rw [ha, hb]
 exact fnt (A := A_ins a) (L := C_ins.L a) (keep := C_ins.keep a) (ren := []) (fz := []) fn_insI (by kernel_rfl) (gok_cons ok_fw1 gok_nil) (p_ins a h)) _
theorem hLenU (xs : List AVal) (a : Int) (h : dLenU xs = some a) : xs = xLenU a := by
 unfold dLenU at h; split at h <;> cases h; rfl
theorem u8_in (n : Int) : 0 <= IntKind.u8.wrap n /\ IntKind.u8.wrap n < ((256 : Nat) : Int) := by
 have e : IntKind.u8.wrap n = n % 256 := by
  simp only [IntKind.wrap, IntKind.bits, IntKind.signed]
  simp
 rw [e]; exact ⟨Int.emod_nonneg _ (by omega), Int.emod_lt_of_pos _ (by omega)⟩
theorem ok_len64 : SpecOk Try.prog n_bLen64 s_len := pD_ok xLenU hLenU λ x h => fnt (A := ann 25 []) (ren := []) (fz := []) fn_bLen64 (by kernel_rfl) gok_nil (by
 have h : 0 <= x /\ x <= 20 := h
 show V_len64 x; rw [vc_len64]; delta z_len64_0 z_len64_1 z_len64_2 z_len64_3 z_len64_4 z_len64_5 z_len64_6 z_len64_7 z_len64_8 z_len64_9 z_len64_10 z_len64_11 z_len64_12 z_len64_13 z_len64_14 z_len64_15; simp only [condP, eq_self, implies_true, and_self, true_and, and_true, true_implies, forall_const, decide_eq_true_eq, decide_eq_false_iff_not, Int.toNat_natCast, dSpan_eSpan, dInt_eInt, dMk_e, dNt_e, dPr_e, Nat.zero_add, Int.zero_sub, Nat.le_eq, Nat.succ_eq_add_one, Nat.add_one_le_iff, Bool.not_eq_true', Bool.not_eq_false', rng_length, dSpan_mk, rng_getD]
 exact ⟨λ h => by omega, λ _ => ⟨λ h => by omega, λ _ => ⟨λ h => by omega, λ _ => u8_in _⟩⟩⟩)
theorem ok_len : SpecOk Try.prog n_bLen s_len := pD_ok xLenU hLenU λ x h => fnt (A := ann 8 [(n_bLen64, s_len)]) (ren := []) (fz := []) fn_bLen (by kernel_rfl) (gok_cons ok_len64 gok_nil) (by
 show V_len x; rw [vc_len]; exact ⟨h, trivial⟩)
theorem ok_pdq : SpecOk Try.prog n_pdq (C_pdq.spec dGLp) := okT C_pdq (λ (a : GL) h => by
 obtain ⟨⟨⟨ha, hb⟩, hl⟩, h⟩ : ((a.a = 0 /\ a.b = a.l.length) /\ a.l.length <= 12) /\ glOk a := h
 show FnT Try.prog n_pdq [.own 100 1 0 a.l.length, .int a.a, .int a.b, .any, fnW1] _ _ _
 rw [ha, hb]
 refine fnt (A := A_pdq a) (L := C_pdq.L a) (keep := C_pdq.keep a) (ren := []) (fz := []) fn_pdq (by kernel_rfl) (gok_cons ok_ins gok_nil) ?_
 show V_pdq a
 rw [vc_pdq]; delta z_pdq_0 z_pdq_1 z_pdq_2 z_pdq_3 z_pdq_4 z_pdq_5 z_pdq_6 z_pdq_7 z_pdq_8 z_pdq_9 z_pdq_10 z_pdq_11 z_pdq_12 z_pdq_13 z_pdq_14 z_pdq_15 z_pdq_16 z_pdq_17 z_pdq_18 z_pdq_19 z_pdq_20 z_pdq_21 z_pdq_22 z_pdq_23 z_pdq_24 z_pdq_25 z_pdq_26; simp only [condP, eq_self, implies_true, and_self, true_and, and_true, true_implies, forall_const, decide_eq_true_eq, decide_eq_false_iff_not, Int.toNat_natCast, dSpan_eSpan, dInt_eInt, dMk_e, dNt_e, dPr_e, Nat.zero_add, Int.zero_sub, Nat.le_eq, Nat.succ_eq_add_one, Nat.add_one_le_iff, Bool.not_eq_true', Bool.not_eq_false', rng_length, dSpan_mk, rng_getD]
 have e : IntKind.i64.wrap ((a.l.length : Int) - 0) = a.l.length := by rw [w64 (by omega) (by omega)]; omega
 rw [e]
 exact ⟨⟨default, trivial⟩, λ _ => ⟨rfl, rfl, h⟩, λ hc => by omega⟩) _
theorem ok_sort : SpecOk Try.prog n_sortI (C_sort.spec dGLt) := okC C_sort (λ _ => A_sort) [] [] fn_sortI (λ _ => by kernel_rfl) (λ _ => gok_cons ok_len (gok_cons ok_pdq gok_nil)) (λ (a : GL) h => by
 obtain ⟨hl, h⟩ : a.l.length <= 12 /\ glOk a := h
 show V_sort a; rw [vc_sort]; simp only [condP, eq_self, implies_true, and_self, true_and, and_true, true_implies, forall_const, decide_eq_true_eq, decide_eq_false_iff_not, Int.toNat_natCast, dSpan_eSpan, dInt_eInt, dMk_e, dNt_e, dPr_e, Nat.zero_add, Int.zero_sub, Nat.le_eq, Nat.succ_eq_add_one, Nat.add_one_le_iff, Bool.not_eq_true', Bool.not_eq_false', rng_length, dSpan_mk, rng_getD]
 have e : IntKind.u64.wrap (a.l.length : Int) = a.l.length := u64w (by omega) (by omega)
 rw [e]
 exact ⟨by omega, rfl, ⟨rfl, hl⟩, h⟩) (λ _ => noI rfl rfl) _
end Go.Bal
