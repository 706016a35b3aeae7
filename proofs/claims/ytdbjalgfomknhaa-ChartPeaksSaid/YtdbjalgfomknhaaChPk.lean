/- Law ChartPeaks: its walk. -/
import Derived.Test.YtdbjalgfomknhaaChW
set_option linter.unusedVariables false
set_option linter.unusedSimpArgs false
namespace Go.Bal
open Go Go.Sym Go.Proofs
structure PwI where
 bs : List Int
 a : Int
 f : Int
 g : Int
 s : Int
def pwM (x : PwI) : MkI := ⟨⟨x.bs, 0, 0⟩, 10, false⟩
def pwC (x : PwI) : Cht := mdC (pwM x)
def pwT (x : PwI) : Tru := mdT (pwM x)
def pwL (x : PwI) : List Span := stgL (pwC x)
def pwLim (x : PwI) : Int := wr ((pwC x).base + pickV x.s 800)
def pwA (x : PwI) : Int := wr (gD (pwT x).t 0 + pickV x.a 300)
def pwB (x : PwI) : Int := wr (pwA x + pickV x.f 300)
def pwD (x : PwI) : Int := wr (wr (pwB x + 1) + pickV x.g 300)
def pwZ (x : PwI) : CZ := ⟨pwC x, nilI⟩
def pwX (x : PwI) : Span × Int := peakV ⟨pwZ x, pwA x, pwB x⟩
def pwY (x : PwI) : Span × Int := peakV ⟨pwZ x, wr (pwB x + 1), pwD x⟩
def pwW (x : PwI) : Span × Int := peakV ⟨pwZ x, pwA x, pwD x⟩
def tpL (l : List Span) (k : Nat) : Int := ((l.take k).map (·.lo)).foldl maxI (gD l 0).lo
def tpH (l : List Span) (k : Nat) : Int := ((l.take k).map (·.hi)).foldl maxI (gD l 0).hi
def pw7 (x : PwI) : Shape := { α := Nat, dflt := 0, T := λ k => ⟨[(1, .int x.a), (2, .int x.f), (3, .int x.g), (4, .int x.s), (11, .bptr 2096 0), (12, .bptr 2112 0), (13, .d (eSpans (pwL x))), (15, .bptr 6048 0), (16, .int k)], [(2096, .live (chB (pwC x))), (2112, .live (.box [.d (eIntsL (pwT x).t), .d (eIntsL (pwT x).s), .d (eIntsL (pwT x).z)])), (6048, .live (.box [.int (tpL (pwL x) k), .int (tpH (pwL x) k)]))]⟩, inv := λ k => k <= (pwC x).ms.length, meas := λ k => (pwC x).ms.length - k }
def pwS (x : PwI) : List (Nat × AVal) := [(1, .int x.a), (2, .int x.f), (3, .int x.g), (11, .bptr 2096 0), (12, .bptr 2112 0)]
def pwH (x : PwI) : List (Nat × HCell) := [(2096, .live (chB (pwC x))), (2112, .live (.box [.d (eIntsL (pwT x).t), .d (eIntsL (pwT x).s), .d (eIntsL (pwT x).z)]))]
def pwH6 (x : PwI) : List (Nat × HCell) := [(6048, .live (.box [.int (gLo (pwL x)), .int (gHi (pwL x))]))]
def pw10 (x : PwI) : Shape := { α := One, dflt := default, T := λ _ => ⟨pwS x ++ [(4, .int x.s), (15, .bptr 6048 0)], pwH x ++ pwH6 x⟩, inv := λ _ => True, meas := λ _ => 0 }
def pw17 (x : PwI) : Shape := { α := One, dflt := default, T := λ _ => ⟨pwS x, pwH x⟩, inv := λ _ => True, meas := λ _ => 0 }
def pw20 (x : PwI) : Shape := { α := One, dflt := default, T := λ _ => ⟨[(11, .bptr 2096 0), (21, .int (pwA x)), (22, .int (pwB x)), (23, .int (pwD x))], [(2096, .live (chB (pwC x)))]⟩, inv := λ _ => True, meas := λ _ => 0 }
def bxS (s : Span) : HCell := .live (.box [.int s.lo, .int s.hi])
def pw23 (x : PwI) : Shape := { α := One, dflt := default, T := λ _ => ⟨[(14, .int (pwX x).2), (24, .bptr 21112 0), (25, .bptr 22128 0), (26, .int (pwY x).2), (27, .bptr 23112 0), (28, .int (pwW x).2)], [(21112, bxS (pwX x).1), (22128, bxS (pwY x).1), (23112, bxS (pwW x).1)]⟩, inv := λ _ => True, meas := λ _ => 0 }
def xPw (x : PwI) : List AVal := [.d (eBys x.bs), .int x.a, .int x.f, .int x.g, .int x.s]
def A_Pw (x : PwI) : Ann := { ann 250 [(n_New, C_New.spec d_New), (n_Made, (C_Made false).spec (dMkI false)), (n_Stages, C_Stages.spec dC1), (n_Peak, C_Peak.spec dCZ2), (n_Pick, s_Pick), (n_First, C_First.spec dCZI), (n_awake, s_awake)] with loops := λ id => if id = 7 then some [pw7 x] else none, cut := λ id => if id = 10 then some [pw10 x] else if id = 17 then some [pw17 x] else if id = 20 then some [pw20 x] else if id = 23 then some [pw23 x] else none }
def V_Pw (x : PwI) : Prop := fnVC Try.prog (A_Pw x) F_lPeaks (bodyOf F_lPeaks) (xPw x) (heapOf []) (.bool true) [] [] []
abbrev z_Pw_0 (x : PwI) : List Int := rng x.bs.length λ (i : Nat) => gD x.bs i
abbrev z_Pw_1 (x : PwI) : Nat := (z_Pw_0 x).length
abbrev z_Pw_2 (x : PwI) (i : Nat) : Int := gD (z_Pw_0 x) i
abbrev z_Pw_3 (x : PwI) : List Int := rng (z_Pw_1 x) λ (i : Nat) => z_Pw_2 x i
abbrev z_Pw_4 (x : PwI) : Nat := (z_Pw_3 x).length
abbrev z_Pw_5 : Prop := (0 : Int) = (0 : Int)
abbrev z_Pw_6 (x : PwI) : Stm := Stm.mk (z_Pw_3 x) (0 : Int) (0 : Int)
abbrev z_Pw_7 (x : PwI) : MkI := MkI.mk (z_Pw_6 x) (10 : Int) false
abbrev z_Pw_8 (x : PwI) : Cht := mdC (z_Pw_7 x)
abbrev z_Pw_9 (x : PwI) : Span := (z_Pw_8 x).p
abbrev z_Pw_10 (x : PwI) : Int := (z_Pw_9 x).lo
abbrev z_Pw_11 (x : PwI) : Int := (z_Pw_9 x).hi
abbrev z_Pw_12 (x : PwI) : Int := (z_Pw_8 x).base
abbrev z_Pw_13 (x : PwI) : Int := (z_Pw_8 x).scale
abbrev z_Pw_14 (x : PwI) : Int := (z_Pw_8 x).off
abbrev z_Pw_15 (x : PwI) : List Mk := (z_Pw_8 x).ms
abbrev z_Pw_16 (x : PwI) : Nat := (z_Pw_15 x).length
abbrev z_Pw_17 (x : PwI) (i : Nat) : Mk := gD (z_Pw_15 x) i
abbrev z_Pw_18 (x : PwI) : List Mk := rng (z_Pw_16 x) λ (i : Nat) => z_Pw_17 x i
abbrev z_Pw_19 (x : PwI) : Nat := (z_Pw_18 x).length
abbrev z_Pw_20 (x : PwI) (i : Nat) : Mk := gD (z_Pw_18 x) i
abbrev z_Pw_21 (x : PwI) (i : Nat) : Int := (z_Pw_17 x i).pl
abbrev z_Pw_22 (x : PwI) (i : Nat) : Int := (z_Pw_17 x i).ht
abbrev z_Pw_23 (x : PwI) : List Nt := (z_Pw_8 x).ns
abbrev z_Pw_24 (x : PwI) : Nat := (z_Pw_23 x).length
abbrev z_Pw_25 (x : PwI) (i : Nat) : Nt := gD (z_Pw_23 x) i
abbrev z_Pw_26 (x : PwI) : List Nt := rng (z_Pw_24 x) λ (i : Nat) => z_Pw_25 x i
abbrev z_Pw_27 (x : PwI) : Nat := (z_Pw_26 x).length
abbrev z_Pw_28 (x : PwI) (i : Nat) : Nt := gD (z_Pw_26 x) i
abbrev z_Pw_29 (x : PwI) (i : Nat) : Int := (z_Pw_25 x i).mi
abbrev z_Pw_30 (x : PwI) (i : Nat) : Span := (z_Pw_28 x i).t
abbrev z_Pw_31 (x : PwI) (i : Nat) : Span := (z_Pw_25 x i).t
abbrev z_Pw_32 (x : PwI) (i : Nat) : Int := (z_Pw_31 x i).lo
abbrev z_Pw_33 (x : PwI) (i : Nat) : Int := (z_Pw_31 x i).hi
abbrev z_Pw_34 (x : PwI) (i : Nat) : Span := (z_Pw_28 x i).s
abbrev z_Pw_35 (x : PwI) (i : Nat) : Span := (z_Pw_25 x i).s
abbrev z_Pw_36 (x : PwI) (i : Nat) : Int := (z_Pw_35 x i).lo
abbrev z_Pw_37 (x : PwI) (i : Nat) : Int := (z_Pw_35 x i).hi
abbrev z_Pw_38 (x : PwI) : List Span × Int := stagesV (Cht.mk (z_Pw_9 x) (z_Pw_12 x) (z_Pw_13 x) (z_Pw_14 x) (z_Pw_18 x) (z_Pw_26 x))
abbrev z_Pw_39 (x : PwI) : List Span := (z_Pw_38 x).fst
abbrev z_Pw_40 (x : PwI) : Nat := (z_Pw_39 x).length
abbrev z_Pw_41 : Prop := (0 : Int) <= (0 : Int)
abbrev z_Pw_42 (x : PwI) (i : Nat) : Span := gD (z_Pw_39 x) i
abbrev z_Pw_43 (x : PwI) : Tru := mdT (z_Pw_7 x)
abbrev z_Pw_44 (x : PwI) : List Int := (z_Pw_43 x).t
abbrev z_Pw_45 (x : PwI) : List Int := (z_Pw_43 x).s
abbrev z_Pw_46 (x : PwI) : List Int := (z_Pw_43 x).z
abbrev z_Pw_47 (x : PwI) : Span := gD (z_Pw_39 x) (Int.toNat (0 : Int))
abbrev z_Pw_48 (a : Nat) (x : PwI) : Prop := (↑a : Int) < (↑(pwL x).length : Int)
abbrev z_Pw_49 (a : Nat) (x : PwI) : Prop := (0 : Int) <= (↑a : Int) /\ z_Pw_48 a x
abbrev z_Pw_50 (x : PwI) : Prop := (pwC x).p.lo = (pwC x).p.lo
abbrev z_Pw_51 (x : PwI) : Prop := (pwC x).p.hi = (pwC x).p.hi
abbrev z_Pw_52 (x : PwI) : Prop := (pwC x).ms.length = (pwC x).ms.length
abbrev z_Pw_53 (x : PwI) : Prop := ∀ (i : Nat), i < (pwC x).ms.length -> (gD (pwC x).ms i).pl = (gD (pwC x).ms i).pl /\ (gD (pwC x).ms i).ht = (gD (pwC x).ms i).ht
abbrev z_Pw_54 (x : PwI) : Prop := (pwC x).ns.length = (pwC x).ns.length
abbrev z_Pw_55 (x : PwI) : Prop := ∀ (i : Nat), i < (pwC x).ns.length -> (gD (pwC x).ns i).mi = (gD (pwC x).ns i).mi /\ (gD (pwC x).ns i).t.lo = (gD (pwC x).ns i).t.lo /\ (gD (pwC x).ns i).t.hi = (gD (pwC x).ns i).t.hi /\
 (gD (pwC x).ns i).s.lo = (gD (pwC x).ns i).s.lo /\ (gD (pwC x).ns i).s.hi = (gD (pwC x).ns i).s.hi
abbrev z_Pw_56 (x : PwI) : Prop := (pwT x).t.length = (pwT x).t.length
abbrev z_Pw_57 (x : PwI) : Prop := ∀ (i : Nat), i < (pwT x).t.length -> gD (pwT x).t i = gD (pwT x).t i
abbrev z_Pw_58 (x : PwI) : Prop := (pwT x).s.length = (pwT x).s.length
abbrev z_Pw_59 (x : PwI) : Prop := ∀ (i : Nat), i < (pwT x).s.length -> gD (pwT x).s i = gD (pwT x).s i
abbrev z_Pw_60 (x : PwI) : Prop := (pwT x).z.length = (pwT x).z.length
abbrev z_Pw_61 (x : PwI) : Prop := ∀ (i : Nat), i < (pwT x).z.length -> gD (pwT x).z i = gD (pwT x).z i
abbrev z_Pw_62 (x : PwI) (a : Nat) : Nat := (pwC x).ms.length - a
abbrev z_Pw_63 (x : PwI) : List Mk := rng (pwC x).ms.length λ (i : Nat) => gD (pwC x).ms i
abbrev z_Pw_64 (x : PwI) : Nat := (z_Pw_63 x).length
abbrev z_Pw_65 (x : PwI) : Prop := z_Pw_64 x = (pwC x).ms.length
abbrev z_Pw_66 (x : PwI) (i : Nat) : Mk := gD (z_Pw_63 x) i
abbrev z_Pw_67 (x : PwI) : Prop := ∀ (i : Nat), i < z_Pw_64 x -> (z_Pw_66 x i).pl = (gD (pwC x).ms i).pl /\ (z_Pw_66 x i).ht = (gD (pwC x).ms i).ht
abbrev z_Pw_68 (x : PwI) : List Nt := rng (pwC x).ns.length λ (i : Nat) => gD (pwC x).ns i
abbrev z_Pw_69 (x : PwI) : Nat := (z_Pw_68 x).length
abbrev z_Pw_70 (x : PwI) : Prop := z_Pw_69 x = (pwC x).ns.length
abbrev z_Pw_71 (x : PwI) (i : Nat) : Nt := gD (z_Pw_68 x) i
abbrev z_Pw_72 (x : PwI) (i : Nat) : Span := (z_Pw_71 x i).t
abbrev z_Pw_73 (x : PwI) (i : Nat) : Span := (z_Pw_71 x i).s
abbrev z_Pw_74 (x : PwI) : Prop := ∀ (i : Nat), i < z_Pw_69 x -> (z_Pw_71 x i).mi = (gD (pwC x).ns i).mi /\ (z_Pw_72 x i).lo = (gD (pwC x).ns i).t.lo /\ (z_Pw_72 x i).hi = (gD (pwC x).ns i).t.hi /\ (z_Pw_73 x i).lo = (gD
 (pwC x).ns i).s.lo /\ (z_Pw_73 x i).hi = (gD (pwC x).ns i).s.hi
abbrev z_Pw_75 : List Int := rng (0 : Nat) λ (i : Nat) => default
abbrev z_Pw_76 : Nat := z_Pw_75.length
abbrev z_Pw_77 : Prop := z_Pw_76 = (0 : Nat)
abbrev z_Pw_78 (x : PwI) : Prop := z_Pw_64 x < (4611686018427387904 : Nat) /\ z_Pw_69 x < (4611686018427387904 : Nat) /\ z_Pw_76 < (4611686018427387904 : Nat)
abbrev z_Pw_79 (x : PwI) : CZ := CZ.mk (Cht.mk (pwC x).p (pwC x).base (pwC x).scale (pwC x).off (z_Pw_63 x) (z_Pw_68 x)) z_Pw_75
abbrev z_Pw_80 (x : PwI) : Span × Int := peakV (CZ2.mk (z_Pw_79 x) (-100000000 : Int) (100000000 : Int))
abbrev z_Pw_81 (x : PwI) : Span := (z_Pw_80 x).fst
abbrev z_Pw_82 (x : PwI) : Int := IntKind.i64.wrap ((pwC x).base + pickV x.s (800 : Int))
abbrev z_Pw_83 (x : PwI) : FsR := firstV (CZI.mk (z_Pw_79 x) (z_Pw_82 x))
abbrev z_Pw_84 (x : PwI) : Int := (z_Pw_83 x).e
abbrev z_Pw_85 (x : PwI) : Int := IntKind.i64.wrap (gD (pwT x).t (Int.toNat (0 : Int)) + pickV x.a (300 : Int))
abbrev z_Pw_86 (x : PwI) : Int := IntKind.i64.wrap (z_Pw_85 x + pickV x.f (300 : Int))
abbrev z_Pw_87 (x : PwI) : Int := IntKind.i64.wrap (pwB x + (1 : Int))
abbrev z_Pw_88 (x : PwI) : Prop := pwD x = pwD x /\ z_Pw_78 x
abbrev z_Pw_89 (x : PwI) : Span × Int := peakV (CZ2.mk (z_Pw_79 x) (pwA x) (pwB x))
abbrev z_Pw_90 (x : PwI) : Span × Int := peakV (CZ2.mk (z_Pw_79 x) (z_Pw_87 x) (pwD x))
abbrev z_Pw_91 (x : PwI) : Span × Int := peakV (CZ2.mk (z_Pw_79 x) (pwA x) (pwD x))
abbrev z_Pw_92 (x : PwI) : Span := (z_Pw_89 x).fst
abbrev z_Pw_93 (x : PwI) : Span := (z_Pw_90 x).fst
abbrev z_Pw_94 (x : PwI) : Span := (z_Pw_91 x).fst
abbrev z_Pw_95 (x : PwI) : Bool := (pwX x).snd != (0 : Int)
abbrev z_Pw_96 (x : PwI) : Bool := (pwY x).snd != (0 : Int)
abbrev z_Pw_97 (x : PwI) : Bool := decide ((pwW x).fst.lo <= (pwW x).fst.hi)
abbrev z_Pw_98 (x : PwI) : Prop := true = bif bif (pwW x).fst.hi == (pwX x).fst.hi then z_Pw_97 x else false then true else false
theorem vc_Pw (x : PwI) : (V_Pw x) = ((z_Pw_1 x = x.bs.length /\ (∀ (i : Nat), i < z_Pw_1 x -> z_Pw_2 x i = gD x.bs i) /\ (10 : Int) = Int.ofNat (10 : Nat) /\ false = false /\ z_Pw_4 x = z_Pw_1 x /\ (∀ (i : Nat), i < z_Pw_4 x
 -> gD (z_Pw_3 x) i = z_Pw_2 x i) /\ z_Pw_5 /\ z_Pw_5 /\ (StmB (0 : Int) (z_Pw_6 x) /\ (1 : Int) <= (10 : Int) /\ (10 : Int) <= (14 : Int)) /\ false = false) /\ (z_Pw_10 x = z_Pw_10 x /\ z_Pw_11 x = z_Pw_11 x /\ z_Pw_12 x = z_Pw_12 x
 /\ z_Pw_13 x = z_Pw_13 x /\ z_Pw_14 x = z_Pw_14 x /\ z_Pw_19 x = z_Pw_16 x /\ (∀ (i : Nat), i < z_Pw_19 x -> (z_Pw_20 x i).pl = z_Pw_21 x i /\ (z_Pw_20 x i).ht = z_Pw_22 x i) /\ z_Pw_27 x = z_Pw_24 x /\ (∀ (i : Nat), i < z_Pw_27
 x -> (z_Pw_28 x i).mi = z_Pw_29 x i /\ (z_Pw_30 x i).lo = z_Pw_32 x i /\ (z_Pw_30 x i).hi = z_Pw_33 x i /\ (z_Pw_34 x i).lo = z_Pw_36 x i /\ (z_Pw_34 x i).hi = z_Pw_37 x i) /\ z_Pw_19 x < (4611686018427387904 : Nat) /\ z_Pw_27
 x < (4611686018427387904 : Nat)) /\ bif bif (z_Pw_38 x).snd != (0 : Int) then true else (↑(z_Pw_40 x) : Int) != (↑(z_Pw_16 x) : Int) then true = false else (z_Pw_41 /\ (0 : Int) < (↑(z_Pw_40 x) : Int)) /\ ((∃ (a : Nat),
 (x.a = x.a /\ x.f = x.f /\ x.g = x.g /\ x.s = x.s /\ (pwL x).length = z_Pw_40 x /\ (∀ (i : Nat), i < (pwL x).length -> (gD (pwL x) i).lo = (z_Pw_42 x i).lo /\ (gD (pwL x) i).hi = (z_Pw_42 x i).hi) /\ (↑a : Int) = (0 : Int) /\
 (pwC x).p.lo = z_Pw_10 x /\ (pwC x).p.hi = z_Pw_11 x /\ (pwC x).base = z_Pw_12 x /\ (pwC x).scale = z_Pw_13 x /\ (pwC x).off = z_Pw_14 x /\ (pwC x).ms.length = z_Pw_16 x /\ (∀ (i : Nat), i < (pwC x).ms.length -> (gD (pwC x).ms
 i).pl = z_Pw_21 x i /\ (gD (pwC x).ms i).ht = z_Pw_22 x i) /\ (pwC x).ns.length = z_Pw_24 x /\ (∀ (i : Nat), i < (pwC x).ns.length -> (gD (pwC x).ns i).mi = z_Pw_29 x i /\ (gD (pwC x).ns i).t.lo = z_Pw_32 x i /\ (gD (pwC x).ns
 i).t.hi = z_Pw_33 x i /\ (gD (pwC x).ns i).s.lo = z_Pw_36 x i /\ (gD (pwC x).ns i).s.hi = z_Pw_37 x i) /\ (pwT x).t.length = (z_Pw_44 x).length /\ (∀ (i : Nat), i < (pwT x).t.length -> gD (pwT x).t i = gD (z_Pw_44 x) i) /\
 (pwT x).s.length = (z_Pw_45 x).length /\ (∀ (i : Nat), i < (pwT x).s.length -> gD (pwT x).s i = gD (z_Pw_45 x) i) /\ (pwT x).z.length = (z_Pw_46 x).length /\ (∀ (i : Nat), i < (pwT x).z.length -> gD (pwT x).z i = gD (z_Pw_46
 x) i) /\ tpL (pwL x) a = (z_Pw_47 x).lo /\ tpH (pwL x) a = (z_Pw_47 x).hi) /\ a.le (pwC x).ms.length) /\ ∀ (a : Nat), a.le (pwC x).ms.length -> bif decide (z_Pw_48 a x) then (z_Pw_49 a x /\ z_Pw_49 a x) /\ ∃ (a_2 : Nat), (x.a =
 x.a /\ x.f = x.f /\ x.g = x.g /\ x.s = x.s /\ (pwL x).length = (pwL x).length /\ (∀ (i : Nat), i < (pwL x).length -> (gD (pwL x) i).lo = (gD (pwL x) i).lo /\ (gD (pwL x) i).hi = (gD (pwL x) i).hi) /\ (↑a_2 : Int) =
 IntKind.i64.wrap ((↑a : Int) + (1 : Int)) /\ z_Pw_50 x /\ z_Pw_51 x /\ (pwC x).base = (pwC x).base /\ (pwC x).scale = (pwC x).scale /\ (pwC x).off = (pwC x).off /\ z_Pw_52 x /\ z_Pw_53 x /\ z_Pw_54 x /\ z_Pw_55 x /\ z_Pw_56 x /\
 z_Pw_57 x /\ z_Pw_58 x /\ z_Pw_59 x /\ z_Pw_60 x /\ z_Pw_61 x /\ tpL (pwL x) a_2 = maxI (tpL (pwL x) a) (gD (pwL x) a).lo /\ tpH (pwL x) a_2 = maxI (tpH (pwL x) a) (gD (pwL x) a).hi) /\ a_2.le (pwC x).ms.length /\ z_Pw_62 x a_2
 < z_Pw_62 x a else ∃ (a_2 : One), (x.a = x.a /\ x.f = x.f /\ x.g = x.g /\ x.s = x.s /\ z_Pw_50 x /\ z_Pw_51 x /\ (pwC x).base = (pwC x).base /\ (pwC x).scale = (pwC x).scale /\ (pwC x).off = (pwC x).off /\ z_Pw_52 x /\ z_Pw_53 x /\
 z_Pw_54 x /\ z_Pw_55 x /\ z_Pw_56 x /\ z_Pw_57 x /\ z_Pw_58 x /\ z_Pw_59 x /\ z_Pw_60 x /\ z_Pw_61 x /\ gLo (pwL x) = tpL (pwL x) a /\ gHi (pwL x) = tpH (pwL x) a) /\ True) /\ ∀ (a : One), True -> (z_Pw_50 x /\ z_Pw_51 x /\ (pwC
 x).base = (pwC x).base /\ (pwC x).scale = (pwC x).scale /\ (pwC x).off = (pwC x).off /\ z_Pw_65 x /\ z_Pw_67 x /\ z_Pw_70 x /\ z_Pw_74 x /\ z_Pw_77 /\ z_Pw_77 /\ (-100000000 : Int) = Int.negSucc (99999999 : Nat) /\ (100000000 :
 Int) = Int.ofNat (100000000 : Nat) /\ z_Pw_78 x) /\ bif bif (z_Pw_80 x).snd != (0 : Int) then true else !((z_Pw_81 x).lo == gLo (pwL x) && ((z_Pw_81 x).hi == gHi (pwL x) && true)) then true = false else (z_Pw_50 x /\
 z_Pw_51 x /\ (pwC x).base = (pwC x).base /\ (pwC x).scale = (pwC x).scale /\ (pwC x).off = (pwC x).off /\ z_Pw_65 x /\ z_Pw_67 x /\ z_Pw_70 x /\ z_Pw_74 x /\ z_Pw_77 /\ z_Pw_77 /\ z_Pw_82 x = z_Pw_82 x /\ z_Pw_78 x) /\ (bif bif bif
 bif z_Pw_84 x != (0 : Int) then z_Pw_84 x != (5 : Int) else false then true else !(z_Pw_83 x).b == decide (gLo (pwL x) >= z_Pw_82 x) then true else !(z_Pw_84 x == (0 : Int)) == decide (gHi (pwL x) >= z_Pw_82 x) then true =
 false else ∃ (a : One), (x.a = x.a /\ x.f = x.f /\ x.g = x.g /\ z_Pw_50 x /\ z_Pw_51 x /\ (pwC x).base = (pwC x).base /\ (pwC x).scale = (pwC x).scale /\ (pwC x).off = (pwC x).off /\ z_Pw_52 x /\ z_Pw_53 x /\ z_Pw_54 x /\ z_Pw_55 x
 /\ z_Pw_56 x /\ z_Pw_57 x /\ z_Pw_58 x /\ z_Pw_59 x /\ z_Pw_60 x /\ z_Pw_61 x) /\ True) /\ ∀ (a : One), True -> (z_Pw_41 /\ (0 : Int) < (↑(pwT x).t.length : Int)) /\ (∃ (a : One), (pwA x = z_Pw_85 x /\ pwB x = z_Pw_86 x /\ pwD x =
 IntKind.i64.wrap (IntKind.i64.wrap (z_Pw_86 x + (1 : Int)) + pickV x.g (300 : Int)) /\ z_Pw_50 x /\ z_Pw_51 x /\ (pwC x).base = (pwC x).base /\ (pwC x).scale = (pwC x).scale /\ (pwC x).off = (pwC x).off /\ z_Pw_52 x /\ z_Pw_53
 x /\ z_Pw_54 x /\ z_Pw_55 x) /\ True) /\ ∀ (a : One), True -> (z_Pw_50 x /\ z_Pw_51 x /\ (pwC x).base = (pwC x).base /\ (pwC x).scale = (pwC x).scale /\ (pwC x).off = (pwC x).off /\ z_Pw_65 x /\ z_Pw_67 x /\ z_Pw_70 x /\ z_Pw_74 x /\
 z_Pw_77 /\ z_Pw_77 /\ pwA x = pwA x /\ pwB x = pwB x /\ z_Pw_78 x) /\ (z_Pw_50 x /\ z_Pw_51 x /\ (pwC x).base = (pwC x).base /\ (pwC x).scale = (pwC x).scale /\ (pwC x).off = (pwC x).off /\ z_Pw_65 x /\ z_Pw_67 x /\ z_Pw_70 x /\
 z_Pw_74 x /\ z_Pw_77 /\ z_Pw_77 /\ z_Pw_87 x = z_Pw_87 x /\ z_Pw_88 x) /\ ((z_Pw_50 x /\ z_Pw_51 x /\ (pwC x).base = (pwC x).base /\ (pwC x).scale = (pwC x).scale /\ (pwC x).off = (pwC x).off /\ z_Pw_65 x /\ z_Pw_67 x /\ z_Pw_70 x /\
 z_Pw_74 x /\ z_Pw_77 /\ z_Pw_77 /\ pwA x = pwA x /\ z_Pw_88 x) /\ ∃ (a : One), ((pwX x).snd = (z_Pw_89 x).snd /\ (pwY x).snd = (z_Pw_90 x).snd /\ (pwW x).snd = (z_Pw_91 x).snd /\ (pwX x).fst.lo = (z_Pw_92 x).lo /\ (pwX x).fst.hi
 = (z_Pw_92 x).hi /\ (pwY x).fst.lo = (z_Pw_93 x).lo /\ (pwY x).fst.hi = (z_Pw_93 x).hi /\ (pwW x).fst.lo = (z_Pw_94 x).lo /\ (pwW x).fst.hi = (z_Pw_94 x).hi) /\ True) /\ ∀ (a : One), True -> bif (pwW x).snd != (0 : Int) then
 true = bif bif bif (pwW x).snd == (5 : Int) then (pwX x).snd == (pwW x).snd else false then (pwY x).snd == (pwW x).snd else false then true else false else bif bif bif bif bif bif (pwX x).snd == (0 : Int) then decide
 ((pwX x).fst.hi > (pwW x).fst.hi) else false then true else bif (pwY x).snd == (0 : Int) then decide ((pwY x).fst.hi > (pwW x).fst.hi) else false then true else bif z_Pw_95 x then (pwX x).snd != (5 : Int) else false then
 true else bif z_Pw_96 x then (pwY x).snd != (5 : Int) else false then true else bif z_Pw_95 x then z_Pw_96 x else false then true = false else bif z_Pw_95 x then bif z_Pw_96 x then z_Pw_98 x else true = bif bif (pwW
 x).fst.hi == (pwY x).fst.hi then z_Pw_97 x else false then true else false else bif z_Pw_96 x then z_Pw_98 x else true = bif bif (pwW x).fst.hi == maxI (pwX x).fst.hi (pwY x).fst.hi then z_Pw_97 x else false then true
 else false) := by kernel_rfl
end Go.Bal
