/- Law RatingRises: its walk. -/
import Derived.Test.YtoihhodbkimedaaRT4
import Derived.Test.YtoihhodbkimedaaRatAr
set_option linter.unusedVariables false
set_option linter.unusedSimpArgs false
namespace Go.Bal
open Go Go.Sym Go.Proofs
structure RiI where
  bs : List Int
  a : Int
  b : Int
  c : Int
def riM (x : RiI) : MkI := ⟨⟨x.bs, 0, 0⟩, 9⟩
def riL1 (x : RiI) : List Gau := mdG (riM x)
def riR (x : RiI) : Rtg := mdR (riM x)
def riA (x : RiI) : Int := pickV x.a 250
def riB (x : RiI) : Int := wr (pickV x.a 250 + pickV x.b 60)
def riQ (x : RiI) : Int := pickV x.c 400
def riF (x : RiI) (t : Int) : GBt := ⟨riL1 x, (riR x).b, t⟩
def bndB (b : Bnd) : HCell := .live (.box [.int b.lo.n, .int b.lo.d, .int b.hi.n, .int b.hi.d])
def rtgB (r : Rtg) : HCell := .live (.box [.d (eIntsL r.b), .d (eLns r.l)])
structure KBo where
  k : Nat
  m : Bool
  deriving Inhabited
def parK (b : List Int) (s t : Int) (i : Nat) : Bool := (b.take i).any fun y => decide (y > s) && decide (y ≤ t)
def ri10 (x : RiI) : Shape := { α := KBo, dflt := default, T := fun y => ⟨[(3, .int x.c), (9, .d (eGaus (riL1 x))), (10, .bptr 2096 0), (11, .int (riA x)), (12, .int (riB x)), (13, .bptr 5128 0), (15, .bptr 6128 0), (17, .bool y.m), (18, .int y.k)], [(2096, rtgB (riR x)), (5128, bndB (flowB (riF x (riA x)))), (6128, bndB (flowB (riF x (riB x))))]⟩, inv := fun y => y.k ≤ (riR x).b.length ∧ y.m = parK (riR x).b (riA x) (riB x) y.k, meas := fun y => (riR x).b.length - y.k }
def riSt (x : RiI) : GBf := ⟨⟨riL1 x, (riR x).b⟩, riQ x⟩
def riSp (x : RiI) : Span := (stgM (riSt x)).1
def spL (s : Span) : List Int := [s.lo, s.hi]
def ri22 (x : RiI) : Shape := { α := Nat, dflt := 0, T := fun k => ⟨[(9, .d (eGaus (riL1 x))), (10, .bptr 2096 0), (11, .int (riA x)), (13, .bptr 5128 0), (19, .bptr 16048 0), (168, .d (lst 1 2 fun i => eInt (gD (spL (riSp x)) i))), (169, .int 2), (170, .int k)], [(2096, rtgB (riR x)), (5128, bndB (flowB (riF x (riA x)))), (16048, .live (.box [.int (riQ x), .int 1]))]⟩, inv := fun k => k ≤ 2 ∧ (stgM (riSt x)).2 = 0, meas := fun k => 2 - k }
def ri28 (x : RiI) : Shape := { α := One, dflt := default, T := fun _ => ⟨[(9, .d (eGaus (riL1 x))), (10, .bptr 2096 0), (11, .int (riA x)), (13, .bptr 5128 0)], [(2096, rtgB (riR x)), (5128, bndB (flowB (riF x (riA x))))]⟩, inv := fun _ => True, meas := fun _ => 0 }
def xRi (x : RiI) : List AVal := [.d (eBys x.bs), .int x.a, .int x.b, .int x.c]
def A_Ri (x : RiI) : Ann := { ann 254 [(n_New, C_New.spec d_New), (n_Made, C_Made.spec dMkI), (n_Pick, s_Pick), (n_Flow, C_Flow.spec dGBt), (n_sound, s_sound), (n_below, s_below), (n_Stages, C_Stages.spec dGBf), (n_Dry, C_Dry.spec dGB), (n_awake, s_awake)] with md := fun id => if id = 21 then some (fun k => if k = 4 then 4 else 0) else none, loops := fun id => if id = 10 then some [ri10 x] else if id = 22 then some [ri22 x] else none, cut := fun id => if id = 28 then some [ri28 x] else none }
def V_Ri (x : RiI) : Prop := fnVC Try.prog (A_Ri x) F_lRises (bodyOf F_lRises) (xRi x) (heapOf []) (.bool true) [] [] []
abbrev z_Ri_0 (x : RiI) : List Int := rng x.bs.length fun (i : Nat) => gD x.bs i
abbrev z_Ri_1 (x : RiI) : Nat := (z_Ri_0 x).length
abbrev z_Ri_2 (x : RiI) (i : Nat) : Int := gD (z_Ri_0 x) i
abbrev z_Ri_3 (x : RiI) : List Int := rng (z_Ri_1 x) fun (i : Nat) => z_Ri_2 x i
abbrev z_Ri_4 (x : RiI) : Nat := (z_Ri_3 x).length
abbrev z_Ri_5 : Prop := (0 : Int) = (0 : Int)
abbrev z_Ri_6 (x : RiI) : Stm := Stm.mk (z_Ri_3 x) (0 : Int) (0 : Int)
abbrev z_Ri_7 (x : RiI) : MkI := MkI.mk (z_Ri_6 x) (9 : Int)
abbrev z_Ri_8 (x : RiI) : List Gau := mdG (z_Ri_7 x)
abbrev z_Ri_9 (x : RiI) : Nat := (z_Ri_8 x).length
abbrev z_Ri_10 (x : RiI) (i : Nat) : Gau := gD (z_Ri_8 x) i
abbrev z_Ri_11 (x : RiI) : List Gau := rng (z_Ri_9 x) fun (i : Nat) => z_Ri_10 x i
abbrev z_Ri_12 (x : RiI) : Nat := (z_Ri_11 x).length
abbrev z_Ri_13 (x : RiI) : Prop := z_Ri_12 x = z_Ri_9 x
abbrev z_Ri_14 (x : RiI) (i : Nat) : Gau := gD (z_Ri_11 x) i
abbrev z_Ri_15 (x : RiI) (i : Nat) : Int := (z_Ri_10 x i).st
abbrev z_Ri_16 (x : RiI) (i : Nat) : Int := (z_Ri_10 x i).lo
abbrev z_Ri_17 (x : RiI) (i : Nat) : Int := (z_Ri_10 x i).hi
abbrev z_Ri_18 (x : RiI) : Prop := ∀ (i : Nat), i < z_Ri_12 x → (z_Ri_14 x i).st = z_Ri_15 x i ∧ (z_Ri_14 x i).lo = z_Ri_16 x i ∧ (z_Ri_14 x i).hi = z_Ri_17 x i
abbrev z_Ri_19 (x : RiI) : Rtg := mdR (z_Ri_7 x)
abbrev z_Ri_20 (x : RiI) : List Int := (z_Ri_19 x).b
abbrev z_Ri_21 (x : RiI) : Nat := (z_Ri_20 x).length
abbrev z_Ri_22 (x : RiI) (i : Nat) : Int := gD (z_Ri_20 x) i
abbrev z_Ri_23 (x : RiI) : List Int := rng (z_Ri_21 x) fun (i : Nat) => z_Ri_22 x i
abbrev z_Ri_24 (x : RiI) : Nat := (z_Ri_23 x).length
abbrev z_Ri_25 (x : RiI) : Prop := z_Ri_24 x = z_Ri_21 x
abbrev z_Ri_26 (x : RiI) : Prop := ∀ (i : Nat), i < z_Ri_24 x → gD (z_Ri_23 x) i = z_Ri_22 x i
abbrev z_Ri_27 (x : RiI) : Prop := (z_Ri_12 x < (4611686018427387904 : Nat) ∧ z_Ri_24 x < (4611686018427387904 : Nat)) ∧ True
abbrev z_Ri_28 (x : RiI) : Int := IntKind.i64.wrap (pickV x.a (250 : Int) + pickV x.b (60 : Int))
abbrev z_Ri_29 (x : RiI) : GBt := GBt.mk (z_Ri_11 x) (z_Ri_23 x) (pickV x.a (250 : Int))
abbrev z_Ri_30 (x : RiI) : GBt := GBt.mk (z_Ri_11 x) (z_Ri_23 x) (z_Ri_28 x)
abbrev z_Ri_31 (x : RiI) : Bnd := flowB (z_Ri_29 x)
abbrev z_Ri_32 (x : RiI) : Rt := (z_Ri_31 x).lo
abbrev z_Ri_33 (x : RiI) : Rt := (z_Ri_31 x).hi
abbrev z_Ri_34 (x : RiI) : Bnd := flowB (z_Ri_30 x)
abbrev z_Ri_35 (x : RiI) : Rt := (z_Ri_34 x).lo
abbrev z_Ri_36 (x : RiI) : Rt := (z_Ri_34 x).hi
abbrev z_Ri_37 (x : RiI) : List Ln := (z_Ri_19 x).l
abbrev z_Ri_38 (x : RiI) (i : Nat) : Ln := gD (z_Ri_37 x) i
abbrev z_Ri_39 (a : KBo) (x : RiI) : Prop := a.k ≤ (riR x).b.length ∧ a.m = parK (riR x).b (riA x) (riB x) a.k
abbrev z_Ri_40 (a : KBo) (x : RiI) : Prop := (↑a.k : Int) < (↑(riR x).b.length : Int)
abbrev z_Ri_41 (a : KBo) (x : RiI) : Prop := (0 : Int) ≤ (↑a.k : Int) ∧ z_Ri_40 a x
abbrev z_Ri_42 (x : RiI) (a : KBo) : Bool := decide (gD (riR x).b a.k > riA x)
abbrev z_Ri_43 (x : RiI) : Prop := (riL1 x).length = (riL1 x).length
abbrev z_Ri_44 (x : RiI) : Prop := ∀ (i : Nat), i < (riL1 x).length → (gD (riL1 x) i).st = (gD (riL1 x) i).st ∧ (gD (riL1 x) i).lo = (gD (riL1 x) i).lo ∧ (gD (riL1 x) i).hi = (gD (riL1 x) i).hi
abbrev z_Ri_45 (x : RiI) : Prop := (riR x).b.length = (riR x).b.length
abbrev z_Ri_46 (x : RiI) : Prop := ∀ (i : Nat), i < (riR x).b.length → gD (riR x).b i = gD (riR x).b i
abbrev z_Ri_47 (x : RiI) : Prop := (riR x).l.length = (riR x).l.length
abbrev z_Ri_48 (x : RiI) : Prop := ∀ (i : Nat), i < (riR x).l.length → (gD (riR x).l i).a0 = (gD (riR x).l i).a0 ∧ (gD (riR x).l i).a1 = (gD (riR x).l i).a1 ∧ (gD (riR x).l i).b0 = (gD (riR x).l i).b0 ∧ (gD (riR x).l
 i).b1 = (gD (riR x).l i).b1
abbrev z_Ri_49 (x : RiI) : Prop := (flowB (riF x (riA x))).lo.n = (flowB (riF x (riA x))).lo.n
abbrev z_Ri_50 (x : RiI) : Prop := (flowB (riF x (riA x))).lo.d = (flowB (riF x (riA x))).lo.d
abbrev z_Ri_51 (x : RiI) : Prop := (flowB (riF x (riA x))).hi.n = (flowB (riF x (riA x))).hi.n
abbrev z_Ri_52 (x : RiI) : Prop := (flowB (riF x (riA x))).hi.d = (flowB (riF x (riA x))).hi.d
abbrev z_Ri_53 (x : RiI) (a : KBo) : Nat := (riR x).b.length - a.k
abbrev z_Ri_54 (x : RiI) : List Gau := rng (riL1 x).length fun (i : Nat) => gD (riL1 x) i
abbrev z_Ri_55 (x : RiI) : Nat := (z_Ri_54 x).length
abbrev z_Ri_56 (x : RiI) : Prop := z_Ri_55 x = (riL1 x).length
abbrev z_Ri_57 (x : RiI) (i : Nat) : Gau := gD (z_Ri_54 x) i
abbrev z_Ri_58 (x : RiI) : Prop := ∀ (i : Nat), i < z_Ri_55 x → (z_Ri_57 x i).st = (gD (riL1 x) i).st ∧ (z_Ri_57 x i).lo = (gD (riL1 x) i).lo ∧ (z_Ri_57 x i).hi = (gD (riL1 x) i).hi
abbrev z_Ri_59 (x : RiI) : List Int := rng (riR x).b.length fun (i : Nat) => gD (riR x).b i
abbrev z_Ri_60 (x : RiI) : Nat := (z_Ri_59 x).length
abbrev z_Ri_61 (x : RiI) : Prop := z_Ri_60 x = (riR x).b.length
abbrev z_Ri_62 (x : RiI) : Prop := ∀ (i : Nat), i < z_Ri_60 x → gD (z_Ri_59 x) i = gD (riR x).b i
abbrev z_Ri_63 (x : RiI) : Prop := (z_Ri_55 x < (4611686018427387904 : Nat) ∧ z_Ri_60 x < (4611686018427387904 : Nat)) ∧ True
abbrev z_Ri_64 (x : RiI) : GB := GB.mk (z_Ri_54 x) (z_Ri_59 x)
abbrev z_Ri_65 (x : RiI) : Span × Int := stgM (GBf.mk (z_Ri_64 x) (pickV x.c (400 : Int)))
abbrev z_Ri_66 (x : RiI) : Int := (z_Ri_65 x).snd
abbrev z_Ri_67 (x : RiI) : Bool := z_Ri_66 x != (0 : Int)
abbrev z_Ri_68 (x : RiI) : Rt := Rt.mk (pickV x.c (400 : Int)) (1 : Int)
abbrev z_Ri_69 (x : RiI) : Span := (z_Ri_65 x).fst
abbrev z_Ri_70 (x : RiI) : Int := (z_Ri_69 x).lo
abbrev z_Ri_71 (x : RiI) : Int := (z_Ri_69 x).hi
abbrev z_Ri_72 : Prop := (2 : Nat) = (2 : Nat)
abbrev z_Ri_73 : Prop := Int.ofNat (2 : Nat) = Int.ofNat (2 : Nat)
abbrev z_Ri_74 : Prop := Int.ofNat (1 : Nat) = Int.ofNat (1 : Nat)
abbrev z_Ri_75 (a : Nat) (x : RiI) : Prop := a ≤ (2 : Nat) ∧ (stgM (riSt x)).snd = (0 : Int)
abbrev z_Ri_76 (x : RiI) (a : Nat) : Prop := gD (spL (riSp x)) a = gD (spL (riSp x)) a
abbrev z_Ri_77 (x : RiI) (a : Nat) : GBt := GBt.mk (z_Ri_54 x) (z_Ri_59 x) (gD (spL (riSp x)) a)
abbrev z_Ri_78 (x : RiI) (a : Nat) : Bnd := flowB (z_Ri_77 x a)
abbrev z_Ri_79 (a : Nat) : Nat := (2 : Nat) - a
abbrev z_Ri_80 (x : RiI) : Prop := ∃ (a : One), (z_Ri_43 x ∧ z_Ri_44 x ∧ riA x = riA x ∧ z_Ri_45 x ∧ z_Ri_46 x ∧ z_Ri_47 x ∧ z_Ri_48 x ∧ z_Ri_49 x ∧ z_Ri_50 x ∧ z_Ri_51 x ∧ z_Ri_52 x) ∧ True
abbrev z_Ri_81 (x : RiI) : Span × Int := dryM (z_Ri_64 x)
abbrev z_Ri_82 (x : RiI) : Span := (z_Ri_81 x).fst
abbrev z_Ri_83 (x : RiI) : Int := (z_Ri_82 x).lo
abbrev z_Ri_84 (x : RiI) : Int := (z_Ri_82 x).hi
abbrev z_Ri_85 (x : RiI) : Bool := decide ((↑(riR x).b.length : Int) > (0 : Int))
theorem vc_Ri (x : RiI) : (V_Ri x) = ((z_Ri_1 x = x.bs.length ∧ (∀ (i : Nat), i < z_Ri_1 x → z_Ri_2 x i = gD x.bs i) ∧ (9 : Int) = Int.ofNat (9 : Nat) ∧ z_Ri_4 x = z_Ri_1 x ∧ (∀ (i : Nat), i < z_Ri_4 x → gD (z_Ri_3 x) i
 = z_Ri_2 x i) ∧ z_Ri_5 ∧ z_Ri_5 ∧ (StmB (0 : Int) (z_Ri_6 x) ∧ (1 : Int) ≤ (9 : Int) ∧ (9 : Int) ≤ (100 : Int)) ∧ True) ∧ (z_Ri_13 x ∧ z_Ri_18 x ∧ z_Ri_25 x ∧ z_Ri_26 x ∧ pickV x.a (250 : Int) = pickV x.a (250 : Int) ∧
 z_Ri_27 x) ∧ (z_Ri_13 x ∧ z_Ri_18 x ∧ z_Ri_25 x ∧ z_Ri_26 x ∧ z_Ri_28 x = z_Ri_28 x ∧ z_Ri_27 x) ∧ bif bif bif bif flowE (z_Ri_29 x) != (0 : Int) then true else flowE (z_Ri_30 x) != (0 : Int) then true else !sndM (Bnd.mk
 (z_Ri_32 x) (z_Ri_33 x)) then true else !sndM (Bnd.mk (z_Ri_35 x) (z_Ri_36 x)) then true = false else (∃ (a : KBo), (x.c = x.c ∧ (riL1 x).length = z_Ri_9 x ∧ (∀ (i : Nat), i < (riL1 x).length → (gD (riL1 x) i).st =
 z_Ri_15 x i ∧ (gD (riL1 x) i).lo = z_Ri_16 x i ∧ (gD (riL1 x) i).hi = z_Ri_17 x i) ∧ riA x = pickV x.a (250 : Int) ∧ riB x = z_Ri_28 x ∧ a.m = false ∧ (↑a.k : Int) = (0 : Int) ∧ (riR x).b.length = z_Ri_21 x ∧ (∀ (i :
 Nat), i < (riR x).b.length → gD (riR x).b i = z_Ri_22 x i) ∧ (riR x).l.length = (z_Ri_37 x).length ∧ (∀ (i : Nat), i < (riR x).l.length → (gD (riR x).l i).a0 = (z_Ri_38 x i).a0 ∧ (gD (riR x).l i).a1 = (z_Ri_38 x i).a1 ∧
 (gD (riR x).l i).b0 = (z_Ri_38 x i).b0 ∧ (gD (riR x).l i).b1 = (z_Ri_38 x i).b1) ∧ (flowB (riF x (riA x))).lo.n = (z_Ri_32 x).n ∧ (flowB (riF x (riA x))).lo.d = (z_Ri_32 x).d ∧ (flowB (riF x (riA x))).hi.n = (z_Ri_33
 x).n ∧ (flowB (riF x (riA x))).hi.d = (z_Ri_33 x).d ∧ (flowB (riF x (riB x))).lo.n = (z_Ri_35 x).n ∧ (flowB (riF x (riB x))).lo.d = (z_Ri_35 x).d ∧ (flowB (riF x (riB x))).hi.n = (z_Ri_36 x).n ∧ (flowB (riF x (riB
 x))).hi.d = (z_Ri_36 x).d) ∧ z_Ri_39 a x) ∧ ∀ (a : KBo), z_Ri_39 a x → bif decide (z_Ri_40 a x) then (((!a.m) = true → z_Ri_41 a x) ∧ ((!a.m && z_Ri_42 x a) = true → z_Ri_41 a x)) ∧ ∃ (a_2 : KBo), (x.c = x.c ∧ z_Ri_43 x
 ∧ z_Ri_44 x ∧ riA x = riA x ∧ riB x = riB x ∧ (a_2.m = bif a.m then true else bif z_Ri_42 x a then decide (gD (riR x).b a.k ≤ riB x) else false) ∧ (↑a_2.k : Int) = IntKind.i64.wrap ((↑a.k : Int) + (1 : Int)) ∧ z_Ri_45 x
 ∧ z_Ri_46 x ∧ z_Ri_47 x ∧ z_Ri_48 x ∧ z_Ri_49 x ∧ z_Ri_50 x ∧ z_Ri_51 x ∧ z_Ri_52 x ∧ (flowB (riF x (riB x))).lo.n = (flowB (riF x (riB x))).lo.n ∧ (flowB (riF x (riB x))).lo.d = (flowB (riF x (riB x))).lo.d ∧ (flowB
 (riF x (riB x))).hi.n = (flowB (riF x (riB x))).hi.n ∧ (flowB (riF x (riB x))).hi.d = (flowB (riF x (riB x))).hi.d) ∧ z_Ri_39 a_2 x ∧ z_Ri_53 x a_2 < z_Ri_53 x a else bif bif !a.m then bif belM (flowB (riF x (riB x))).lo
 (flowB (riF x (riA x))).lo then true else belM (flowB (riF x (riB x))).hi (flowB (riF x (riA x))).hi else false then true = false else (z_Ri_56 x ∧ z_Ri_58 x ∧ z_Ri_61 x ∧ z_Ri_62 x ∧ pickV x.c (400 : Int) = pickV x.c
 (400 : Int) ∧ z_Ri_63 x) ∧ bif bif bif z_Ri_67 x then z_Ri_66 x != (5 : Int) else false then true else bif bif !belM (z_Ri_68 x) (flowB (riF x (riA x))).lo then !belM (flowB (riF x (riA x))).hi (z_Ri_68 x) else false
 then bif bif z_Ri_67 x then true else decide (riA x < z_Ri_70 x) then true else decide (riA x > z_Ri_71 x) else false then true = false else (bif z_Ri_66 x == (0 : Int) then (∃ (a : Nat), (z_Ri_43 x ∧ z_Ri_44 x ∧ riA x =
 riA x ∧ z_Ri_72 ∧ (∀ (i : Nat), i < (2 : Nat) → gD (spL (riSp x)) i = bif decide (i = (0 : Nat)) then z_Ri_70 x else z_Ri_71 x) ∧ z_Ri_73 ∧ (↑a : Int) = (0 : Int) ∧ z_Ri_45 x ∧ z_Ri_46 x ∧ z_Ri_47 x ∧ z_Ri_48 x ∧ z_Ri_49
 x ∧ z_Ri_50 x ∧ z_Ri_51 x ∧ z_Ri_52 x ∧ riQ x = pickV x.c (400 : Int) ∧ z_Ri_74) ∧ z_Ri_75 a x) ∧ ∀ (a : Nat), z_Ri_75 a x → bif decide ((↑a : Int) < (2 : Int)) then ((0 : Int) ≤ (↑a : Int) ∧ (↑a : Int) < (↑(2 : Nat) :
 Int)) ∧ (z_Ri_56 x ∧ z_Ri_58 x ∧ z_Ri_61 x ∧ z_Ri_62 x ∧ z_Ri_76 x a ∧ z_Ri_63 x) ∧ bif bif bif flowE (z_Ri_77 x a) != (0 : Int) then true else belM (Rt.mk (riQ x) (1 : Int)) (z_Ri_78 x a).lo then true else belM (z_Ri_78
 x a).hi (Rt.mk (riQ x) (1 : Int)) then true = false else ∃ (a_3 : Nat), (z_Ri_43 x ∧ z_Ri_44 x ∧ riA x = riA x ∧ z_Ri_72 ∧ (∀ (i : Nat), i < (2 : Nat) → z_Ri_76 x i) ∧ z_Ri_73 ∧ (↑a_3 : Int) = IntKind.i64.wrap ((↑a :
 Int) + (1 : Int)) ∧ z_Ri_45 x ∧ z_Ri_46 x ∧ z_Ri_47 x ∧ z_Ri_48 x ∧ z_Ri_49 x ∧ z_Ri_50 x ∧ z_Ri_51 x ∧ z_Ri_52 x ∧ riQ x = riQ x ∧ z_Ri_74) ∧ z_Ri_75 a_3 x ∧ z_Ri_79 a_3 < z_Ri_79 a else z_Ri_80 x else z_Ri_80 x) ∧ ∀ (a
 : One), True → (z_Ri_56 x ∧ z_Ri_58 x ∧ z_Ri_61 x ∧ z_Ri_62 x ∧ z_Ri_63 x) ∧ bif bif bif (z_Ri_81 x).snd != (0 : Int) then true else decide (z_Ri_83 x > z_Ri_84 x) then true else decide (z_Ri_83 x < (-1 : Int)) then true
 = false else (z_Ri_85 x = true → (0 : Int) ≤ (0 : Int) ∧ (0 : Int) < (↑(riR x).b.length : Int)) ∧ bif bif z_Ri_85 x then decide (riA x ≥ gD (riR x).b (Int.toNat (0 : Int))) else false then true = true else true = bif bif
 decide (riA x ≤ z_Ri_83 x) == ((flowB (riF x (riA x))).hi.n == (0 : Int)) then decide (riA x ≤ z_Ri_84 x) == ((flowB (riF x (riA x))).lo.n == (0 : Int)) else false then true else false) := by kernel_rfl
theorem bnd_eta (b : Bnd) : Bnd.mk b.lo b.hi = b := rfl
theorem pick_in (v : Int) {n : Int} (h : 1 ≤ n ∧ n ≤ 1000000) : 0 ≤ pickV v n ∧ pickV v n < n := by
  unfold pickV
  rw [if_neg (by omega)]
  have h1 : -n < v.tmod n := Int.lt_tmod_of_pos v (by omega)
  have h2 : v.tmod n < n := Int.tmod_lt_of_pos v (by omega)
  split
  · unfold wr; rw [w64 (by omega) (by omega)]; omega
  · omega
theorem preM_of {bs : List Int} (h : okBy bs) {m : Int} (hm : 1 ≤ m ∧ m ≤ 100) : preM ⟨⟨bs, 0, 0⟩, m⟩ := ⟨⟨⟨Int.le_refl _, Int.le_refl _⟩, ⟨Int.le_refl _, by show (0 : Int) < 251; omega⟩, h⟩, hm⟩
set_option maxHeartbeats 2000000 in
theorem p_Ri (x : RiI) (hb : okBy x.bs) : V_Ri x := by
  rw [vc_Ri]; delta z_Ri_0 z_Ri_1 z_Ri_2 z_Ri_3 z_Ri_4 z_Ri_5 z_Ri_6 z_Ri_7 z_Ri_8 z_Ri_9 z_Ri_10 z_Ri_11 z_Ri_12 z_Ri_13 z_Ri_14 z_Ri_15 z_Ri_16 z_Ri_17 z_Ri_18 z_Ri_19 z_Ri_20 z_Ri_21 z_Ri_22 z_Ri_23 z_Ri_24 z_Ri_25 z_Ri_26 z_Ri_27 z_Ri_28 z_Ri_29 z_Ri_30 z_Ri_31 z_Ri_32 z_Ri_33 z_Ri_34 z_Ri_35 z_Ri_36 z_Ri_37 z_Ri_38 z_Ri_39 z_Ri_40 z_Ri_41 z_Ri_42 z_Ri_43 z_Ri_44 z_Ri_45 z_Ri_46 z_Ri_47 z_Ri_48 z_Ri_49 z_Ri_50 z_Ri_51 z_Ri_52 z_Ri_53 z_Ri_54 z_Ri_55 z_Ri_56 z_Ri_57 z_Ri_58 z_Ri_59 z_Ri_60 z_Ri_61 z_Ri_62 z_Ri_63 z_Ri_64 z_Ri_65 z_Ri_66 z_Ri_67 z_Ri_68 z_Ri_69 z_Ri_70 z_Ri_71 z_Ri_72 z_Ri_73 z_Ri_74 z_Ri_75 z_Ri_76 z_Ri_77 z_Ri_78 z_Ri_79 z_Ri_80 z_Ri_81 z_Ri_82 z_Ri_83 z_Ri_84 z_Ri_85; simp only [condP, eq_self, implies_true, and_self, true_and, and_true, true_implies, forall_const, decide_eq_true_eq, decide_eq_false_iff_not, Int.toNat_natCast, dSpan_eSpan, dInt_eInt, dGau_e, dPt_e, dLn_e, dRt_e, Nat.zero_add, Int.zero_sub, Nat.le_eq, Nat.succ_eq_add_one, Nat.add_one_le_iff, Bool.not_eq_true', Bool.not_eq_false', rng_length, dSpan_mk, rng_getD, stm_eta, show MkI.mk ⟨x.bs, 0, 0⟩ 9 = riM x from rfl, show mdG (riM x) = riL1 x from rfl, show mdR (riM x) = riR x from rfl, show pickV x.a 250 = riA x from rfl, show IntKind.i64.wrap (riA x + pickV x.b 60) = riB x from rfl, show pickV x.c 400 = riQ x from rfl, show ∀ t, GBt.mk (riL1 x) (riR x).b t = riF x t from fun _ => rfl, show ∀ t, GBf.mk ⟨riL1 x, (riR x).b⟩ t = ⟨⟨riL1 x, (riR x).b⟩, t⟩ from fun _ => rfl, show GBf.mk ⟨riL1 x, (riR x).b⟩ (riQ x) = riSt x from rfl, bnd_eta]
  have hpre : preM (riM x) := preM_of hb (by omega)
  obtain ⟨hF, hlen⟩ := made_fits hpre
  have hlen : (riL1 x).length ≤ 9 := hlen
  have hT : Thru (riL1 x) (riR x).b := hF.thru (by show (riL1 x).length ≤ 24; omega)
  have hbl := hT.few
  have hA := pick_in x.a (n := 250) (by omega)
  have hB0 := pick_in x.b (n := 60) (by omega)
  have hQ0 := pick_in x.c (n := 400) (by omega)
  have eB : riB x = riA x + pickV x.b 60 := w64 (by omega) (by omega)
  have hA : 0 ≤ riA x ∧ riA x < 250 := hA
  have hQ : 0 ≤ riQ x ∧ riQ x ≤ 200000 := by unfold riQ; omega
  have oq := qR_ok hQ
  have tA : 0 ≤ riA x ∧ riA x ≤ 2000 := by omega
  have tB : 0 ≤ riB x ∧ riB x ≤ 2000 := by omega
  obtain ⟨fA, eA⟩ := hT.flow tA
  obtain ⟨fB, eBb⟩ := hT.flow tB
  obtain ⟨iA1, iA2, iA3⟩ := hT.in (leC_le (riR x).b (riA x)) tA
  obtain ⟨iB1, iB2, iB3⟩ := hT.in (leC_le (riR x).b (riB x)) tB
  rw [← eA] at iA1 iA2 iA3
  rw [← eBb] at iB1 iB2 iB3
  have sA : sndM (flowB (riF x (riA x))) = true := snd_ok iA1 iA2 iA3
  have sB : sndM (flowB (riF x (riB x))) = true := snd_ok iB1 iB2 iB3
  have fA : flowE (riF x (riA x)) = 0 := fA
  have fB : flowE (riF x (riB x)) = 0 := fB
  obtain ⟨S1, S2, S3⟩ := hT.stages hQ
  have hS : GBf.mk ⟨riL1 x, (riR x).b⟩ (riQ x) = riSt x := rfl
  rw [hS] at S1 S2 S3
  obtain ⟨D1, D2, D3⟩ := hT.dry
  have hlens : (riL1 x).length < 4611686018427387904 ∧ (riR x).b.length < 4611686018427387904 := by omega
  rw [fA, fB, sA, sB]
  refine ⟨⟨rfl, hpre⟩, hlens, hlens, fun hc => (by cases hc), fun _ => ⟨⟨⟨0, false⟩, ⟨rfl, rfl⟩, Nat.zero_le _, rfl⟩, fun y ⟨hy, hym⟩ => ⟨fun hlt => ?_, fun hge => ⟨fun hc => ?_, fun _ => ⟨hlens, fun hc => ?_, fun _ => ⟨⟨fun h0 => ?_, fun _ => ⟨default, trivial⟩⟩, hlens, fun hc => ?_, fun _ => ⟨fun h => ⟨by omega, by omega⟩, fun hc => ?_⟩⟩⟩⟩⟩⟩⟩
  · refine ⟨⟨fun _ => ⟨by omega, by omega⟩, fun _ => ⟨by omega, by omega⟩⟩, ⟨y.k + 1, parK (riR x).b (riA x) (riB x) (y.k + 1)⟩, ⟨?_, (wsucc (by omega)).symm⟩, ⟨by show y.k + 1 ≤ _; omega, rfl⟩, by show (riR x).b.length - (y.k + 1) < _; omega⟩
    show parK (riR x).b (riA x) (riB x) (y.k + 1) = _
    rw [hym]
    unfold parK
    rw [take_snoc (show y.k < (riR x).b.length by omega), List.any_append]
    cases (List.take y.k (riR x).b).any fun y => decide (y > riA x) && decide (y ≤ riB x)
    · simp only [List.any_cons, List.any_nil, Bool.or_false, Bool.false_or]
      cases decide (gD (riR x).b y.k > riA x) <;> rfl
    · rfl
  · exfalso
    have hk : y.k = (riR x).b.length := by omega
    cases hm : y.m with
    | true => rw [hm] at hc; cases hc
    | false =>
      rw [hm, hk] at hym
      unfold parK at hym
      rw [List.take_length] at hym
      have hno : ∀ z ∈ (riR x).b, (z ≤ riA x ↔ z ≤ riB x) := fun z hz => by
        have := List.any_eq_false.1 hym.symm z hz
        simp only [Bool.and_eq_true, decide_eq_true_eq] at this
        omega
      have hle : leC (riR x).b (riB x) = leC (riR x).b (riA x) := List.countP_congr fun z hz => by
        simp only [decide_eq_true_eq]; exact (hno z hz).symm
      have hr := bdS_rise (part_ok hT.ok) tA.1 (show riA x ≤ riB x by omega) tB.2 (hT.ne (leC_le (riR x).b (riA x)) tA)
      rw [← eA] at hr
      rw [← hle, ← eBb] at hr
      have c1 : belM (flowB (riF x (riB x))).lo (flowB (riF x (riA x))).lo = false := (bel_iff iB1 iA1).2 hr.1
      have c2 : belM (flowB (riF x (riB x))).hi (flowB (riF x (riA x))).hi = false := (bel_iff iB2 iA2).2 hr.2
      rw [hm, c1, c2] at hc
      cases hc
  · exfalso
    have hs := S1
    have e1 : (bif (stgM (riSt x)).2 != 0 then (stgM (riSt x)).2 != 5 else false) = false := by
      rcases hs with hs | hs <;> rw [hs] <;> rfl
    rw [e1] at hc
    cases hb1 : belM ⟨riQ x, 1⟩ (flowB (riF x (riA x))).lo with
    | true => rw [hb1] at hc; cases hc
    | false =>
      cases hb2 : belM (flowB (riF x (riA x))).hi ⟨riQ x, 1⟩ with
      | true => rw [hb1, hb2] at hc; cases hc
      | false =>
        have hcan : canB (riL1 x) (riR x).b (riQ x) (riA x) := ⟨(bel_iff oq iA1).1 hb1, (bel_iff iA2 oq).1 hb2⟩
        obtain ⟨c1, c2, c3⟩ := S2 _ tA hcan
        rw [hb1, hb2, c1, decide_eq_false (show ¬riA x < (stgM (riSt x)).1.lo by omega), decide_eq_false (show ¬riA x > (stgM (riSt x)).1.hi by omega)] at hc
        cases hc
  · have h0 : (stgM (riSt x)).2 = 0 := by simpa using h0
    refine ⟨⟨0, ⟨fun i hi => ?_, rfl⟩, Nat.zero_le _, h0⟩, fun k ⟨hk, _⟩ => ⟨fun hlt => ⟨⟨by omega, by omega⟩, hlens, fun hc => ?_, fun _ => ⟨k + 1, (wsucc (by omega)).symm, ⟨by omega, h0⟩, by omega⟩⟩, fun _ => ⟨default, trivial⟩⟩⟩
    · match i, hi with
      | 0, _ => rfl
      | 1, _ => rfl
    · exfalso
      have hcan : (0 ≤ gD (spL (riSp x)) k ∧ gD (spL (riSp x)) k ≤ 2000) ∧ canB (riL1 x) (riR x).b (riQ x) (gD (spL (riSp x)) k) := by
        have h3 := S3 h0
        rcases (show k = 0 ∨ k = 1 by omega) with rfl | rfl
        · exact h3.1
        · exact h3.2
      obtain ⟨tK, c1, c2⟩ := hcan
      obtain ⟨fK, eK⟩ := hT.flow tK
      obtain ⟨iK1, iK2, iK3⟩ := hT.in (leC_le (riR x).b _) tK
      rw [← eK] at iK1 iK2
      have fK : flowE (riF x (gD (spL (riSp x)) k)) = 0 := fK
      have b1 : belM ⟨riQ x, 1⟩ (flowB (riF x (gD (spL (riSp x)) k))).lo = false := (bel_iff oq iK1).2 c1
      have b2 : belM (flowB (riF x (gD (spL (riSp x)) k))).hi ⟨riQ x, 1⟩ = false := (bel_iff iK2 oq).2 c2
      rw [fK, b1, b2] at hc
      cases hc
  · exfalso
    rw [D1, decide_eq_false (show ¬(dryM ⟨riL1 x, (riR x).b⟩).1.lo > (dryM ⟨riL1 x, (riR x).b⟩).1.hi by omega), decide_eq_false (show ¬(dryM ⟨riL1 x, (riR x).b⟩).1.lo < -1 by omega)] at hc
    cases hc
  · have hk : leC (riR x).b (riA x) = 0 := by
      obtain ⟨l1, _⟩ := leC_at (t := riA x) hT.asc
      have hle := leC_le (riR x).b (riA x)
      refine Classical.byContradiction fun hne => ?_
      have h1 := l1 0 (by omega)
      rw [decide_eq_true (show (((riR x).b.length : Nat) : Int) > 0 by omega), show Int.toNat 0 = 0 from rfl, decide_eq_true (show riA x ≥ gD (riR x).b 0 by omega)] at hc
      cases hc
    obtain ⟨d1, d2⟩ := D3 _ tA hk
    have d1 : riA x ≤ (dryM ⟨riL1 x, (riR x).b⟩).1.lo ↔ (flowB (riF x (riA x))).hi.n = 0 := d1
    have d2 : riA x ≤ (dryM ⟨riL1 x, (riR x).b⟩).1.hi ↔ (flowB (riF x (riA x))).lo.n = 0 := d2
    have e1 : (decide (riA x ≤ (dryM ⟨riL1 x, (riR x).b⟩).1.lo) == ((flowB (riF x (riA x))).hi.n == 0)) = true := by
      rw [beq_iff_eq, Bool.eq_iff_iff, decide_eq_true_eq, beq_iff_eq]; exact d1
    have e2 : (decide (riA x ≤ (dryM ⟨riL1 x, (riR x).b⟩).1.hi) == ((flowB (riF x (riA x))).lo.n == 0)) = true := by
      rw [beq_iff_eq, Bool.eq_iff_iff, decide_eq_true_eq, beq_iff_eq]; exact d2
    rw [e1, e2]; rfl
theorem ok_Ri (x : RiI) (hb : okBy x.bs) : FnT Try.prog n_lRises (xRi x) (heapOf []) (.bool true) [] := fnt (A := A_Ri x) (ren := []) (fz := []) fn_lRises (by kernel_rfl) (gok_cons ok_New (gok_cons ok_Made (gok_cons ok_Pick (gok_cons ok_Flow (gok_cons ok_sound (gok_cons ok_below (gok_cons ok_Stages (gok_cons ok_Dry (gok_cons ok_awake gok_nil))))))))) (p_Ri x hb)
end Go.Bal
