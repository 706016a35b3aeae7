/- BalanceReached. -/
import Derived.Test.YtonddbmhljelgaaBalAr2
import Derived.Test.YtonddbmhljelgaaBalMk3
set_option linter.unusedVariables false
set_option linter.unusedSimpArgs false
namespace Go.Bal
open Go Go.Sym Go.Proofs
structure BII where
  a : List Int
  x : Int
  y : Int
def reN (a : BII) : NetL := mkN a.a 6
def reT (a : BII) : TruthL := mkT a.a 6
def reI (a : BII) : Int := pickM a.x (reN a).r.length
def reSp (a : BII) : Span := gD (spF (reN a)) (reI a).toNat
def reL (a : BII) : List Int := [(reSp a).lo, (reSp a).hi, wr ((reSp a).lo + pickM a.y (wr (wr ((reSp a).hi - (reSp a).lo) + 1)))]
def A11 (a : BII) : Ann := { ann 183 [(30, C30.spec d30), (29, C29.spec d33), (31, s31), (34, C34t.spec dN), (38, C38t.spec d38), (48, C48.spec dNT8), (15, C15o.spec d67), (19, C19t.spec dN), (14, s14)] with loops := fun id => if id = 10 then some [{ α := Nat, dflt := 0, T := fun k => ⟨[(7, .bptr 201 0), (9, .int (reI a)), (13, .bptr 202 0), (89, .d (eIntsL (reL a))), (90, .int 3), (91, .int k)], [(201, begO (reN a)), (202, .live (.box [.int (reSp a).lo, .int (reSp a).hi]))]⟩, inv := fun k => (reN a).r.length ≠ 0 ∧ k ≤ 3, meas := fun k => 3 - k, first := [(201, 2096), (202, 9064)], ffz := [10240] }] else none }
def xsBII (a : BII) : List AVal := [.d (eBys a.a), .int a.x, .int a.y]
def V11 (a : BII) : Prop := fnVC Try.prog (A11 a) Try.f11 (bodyOf Try.f11) (xsBII a) (heapOf []) (.bool true) [] [] []
abbrev z11_0 (a : BII) : List Int := rng a.a.length fun (i : Nat) => gD a.a i
abbrev z11_1 (a : BII) : Nat := (z11_0 a).length
abbrev z11_2 (a : BII) (i : Nat) : Int := gD (z11_0 a) i
abbrev z11_3 (a : BII) : List Int := rng (z11_1 a) fun (i : Nat) => z11_2 a i
abbrev z11_4 (a : BII) : Nat := (z11_3 a).length
abbrev z11_5 : Prop := (0 : Int) = (0 : Int)
abbrev z11_6 (a : BII) : Stm := Stm.mk (z11_3 a) (0 : Int) (0 : Int)
abbrev z11_7 (a : BII) : NetL := madeN (SN.mk (z11_6 a) (6 : Int))
abbrev z11_8 (a : BII) : List Reach := (z11_7 a).r
abbrev z11_9 (a : BII) : Nat := (z11_8 a).length
abbrev z11_10 (a : BII) : List Span := (z11_7 a).g
abbrev z11_11 (a : BII) : Nat := (z11_10 a).length
abbrev z11_12 (a : BII) (i : Nat) : Span := gD (z11_10 a) i
abbrev z11_13 (a : BII) : List Span := rng (z11_11 a) fun (i : Nat) => z11_12 a i
abbrev z11_14 (a : BII) : Nat := (z11_13 a).length
abbrev z11_15 (a : BII) (i : Nat) : Span := gD (z11_13 a) i
abbrev z11_16 (a : BII) (i : Nat) : Int := (z11_12 a i).lo
abbrev z11_17 (a : BII) (i : Nat) : Int := (z11_12 a i).hi
abbrev z11_18 (a : BII) (i : Nat) : Reach := gD (z11_8 a) i
abbrev z11_19 (a : BII) : List Reach := rng (z11_9 a) fun (i : Nat) => z11_18 a i
abbrev z11_20 (a : BII) : Nat := (z11_19 a).length
abbrev z11_21 (a : BII) (i : Nat) : Reach := gD (z11_19 a) i
abbrev z11_22 (a : BII) (i : Nat) : Int := (z11_18 a i).fr
abbrev z11_23 (a : BII) (i : Nat) : Int := (z11_18 a i).to
abbrev z11_24 (a : BII) (i : Nat) : Span := (z11_21 a i).sp
abbrev z11_25 (a : BII) (i : Nat) : Span := (z11_18 a i).sp
abbrev z11_26 (a : BII) (i : Nat) : Int := (z11_25 a i).lo
abbrev z11_27 (a : BII) (i : Nat) : Int := (z11_25 a i).hi
abbrev z11_28 (a : BII) : NetL := NetL.mk (z11_13 a) (z11_19 a)
abbrev z11_29 (a : BII) : List Span := fitF (z11_28 a)
abbrev z11_30 (a : BII) : Nat := (z11_29 a).length
abbrev z11_31 (a : BII) : Bool := bif fitE (z11_28 a) != (0 : Int) then true else (↑(z11_30 a) : Int) != (↑(z11_9 a) : Int)
abbrev z11_32 (a : BII) : Int := pickM a.x (↑(z11_9 a) : Int)
abbrev z11_33 (a : BII) : Prop := (0 : Int) ≤ z11_32 a ∧ z11_32 a < (↑(z11_30 a) : Int)
abbrev z11_34 (a : BII) : Prop := (!z11_31 a) = true → z11_33 a
abbrev z11_35 (a : BII) : Span := gD (z11_29 a) (z11_32 a).toNat
abbrev z11_36 (a : BII) : Int := (z11_35 a).lo
abbrev z11_37 (a : BII) : Int := (z11_35 a).hi
abbrev z11_38 (j : Nat) : Nat := (0 : Nat) + j
abbrev z11_39 : Prop := Int.ofNat (3 : Nat) = Int.ofNat (3 : Nat)
abbrev z11_40 (a : BII) (a1 : Nat) : Prop := (reN a).r.length ≠ (0 : Nat) ∧ a1 ≤ (3 : Nat)
abbrev z11_41 (a : BII) : List Span := rng (reN a).g.length fun (i : Nat) => gD (reN a).g i
abbrev z11_42 (a : BII) : Nat := (z11_41 a).length
abbrev z11_43 (a : BII) : Prop := z11_42 a = (reN a).g.length
abbrev z11_44 (a : BII) (i : Nat) : Span := gD (z11_41 a) i
abbrev z11_45 (a : BII) (i : Nat) : Int := (z11_44 a i).lo
abbrev z11_46 (a : BII) (i : Nat) : Int := (z11_44 a i).hi
abbrev z11_47 (a : BII) : Prop := ∀ (i : Nat), i < z11_42 a → z11_45 a i = (gD (reN a).g i).lo ∧ z11_46 a i = (gD (reN a).g i).hi
abbrev z11_48 (a : BII) : List Reach := rng (reN a).r.length fun (i : Nat) => gD (reN a).r i
abbrev z11_49 (a : BII) : Nat := (z11_48 a).length
abbrev z11_50 (a : BII) : Prop := z11_49 a = (reN a).r.length
abbrev z11_51 (a : BII) (i : Nat) : Reach := gD (z11_48 a) i
abbrev z11_52 (a : BII) (i : Nat) : Int := (z11_51 a i).fr
abbrev z11_53 (a : BII) (i : Nat) : Int := (z11_51 a i).to
abbrev z11_54 (a : BII) (i : Nat) : Span := (z11_51 a i).sp
abbrev z11_55 (a : BII) (i : Nat) : Int := (z11_54 a i).lo
abbrev z11_56 (a : BII) (i : Nat) : Int := (z11_54 a i).hi
abbrev z11_57 (a : BII) : Prop := ∀ (i : Nat), i < z11_49 a → z11_52 a i = (gD (reN a).r i).fr ∧ z11_53 a i = (gD (reN a).r i).to ∧ z11_55 a i = (gD (reN a).r i).sp.lo ∧ z11_56 a i = (gD (reN a).r i).sp.hi
abbrev z11_58 (a : BII) (a1 : Nat) : Prop := gD (reL a) a1 = gD (reL a) a1
abbrev z11_59 (a : BII) : NetL := NetL.mk (z11_41 a) (z11_48 a)
abbrev z11_60 (a : BII) (a1 : Nat) : NRF := NRF.mk (z11_59 a) (reI a) (gD (reL a) a1)
abbrev z11_61 (a : BII) (a1 : Nat) : TruthL := rchT (z11_60 a a1)
abbrev z11_62 (a : BII) (a1 : Nat) : List Int := (z11_61 a a1).f
abbrev z11_63 (a : BII) (a1 : Nat) : Nat := (z11_62 a a1).length
abbrev z11_64 (a : BII) (a1 : Nat) : Bool := bif reachE (z11_60 a a1) != (0 : Int) then true else (↑(z11_63 a a1) : Int) != (↑(reN a).r.length : Int)
abbrev z11_65 (a : BII) : Prop := (0 : Int) ≤ reI a
abbrev z11_66 (a : BII) (a1 : Nat) (i : Nat) : Int := gD (z11_62 a a1) i
abbrev z11_67 (a : BII) (a1 : Nat) : List Int := rng (z11_63 a a1) fun (i : Nat) => z11_66 a a1 i
abbrev z11_68 (a : BII) (a1 : Nat) : Nat := (z11_67 a a1).length
abbrev z11_69 (a : BII) (a1 : Nat) : List Int := (z11_61 a a1).t
abbrev z11_70 (a : BII) (a1 : Nat) : Nat := (z11_69 a a1).length
abbrev z11_71 (a : BII) (a1 : Nat) (i : Nat) : Int := gD (z11_69 a a1) i
abbrev z11_72 (a : BII) (a1 : Nat) : List Int := rng (z11_70 a a1) fun (i : Nat) => z11_71 a a1 i
abbrev z11_73 (a : BII) (a1 : Nat) : Nat := (z11_72 a a1).length
abbrev z11_74 (a : BII) : Prop := z11_42 a ≤ (1000000 : Nat)
abbrev z11_75 (a : BII) (a1 : Nat) : TruthL := TruthL.mk (z11_67 a a1) (z11_72 a a1)
abbrev z11_76 (a : BII) : Nat := (0 : Nat) + (reI a).toNat
abbrev z11_77 (a : BII) : List Span := rng (z11_42 a) fun (i : Nat) => z11_44 a i
abbrev z11_78 (a : BII) : Nat := (z11_77 a).length
abbrev z11_79 (a : BII) (i : Nat) : Span := gD (z11_77 a) i
abbrev z11_80 (i : Nat) (a : BII) : Prop := i = z11_76 a
abbrev z11_81 (i : Nat) (a : BII) : Bool := decide (z11_80 i a)
abbrev z11_82 (a : BII) : Reach := gD (z11_48 a) (z11_76 a)
abbrev z11_83 (a : BII) : Int := (z11_82 a).fr
abbrev z11_84 (a : BII) : Int := (z11_82 a).to
abbrev z11_85 (a : BII) (a1 : Nat) : List Reach := rng (z11_49 a) fun (i : Nat) => Reach.mk (bif z11_81 i a then z11_83 a else z11_52 a i) (bif z11_81 i a then z11_84 a else z11_53 a i) (Span.mk (bif z11_81 i a then gD
 (reL a) a1 else z11_55 a i) (bif z11_81 i a then gD (reL a) a1 else z11_56 a i))
abbrev z11_86 (i : Nat) (a : BII) : Bool := decide (z11_80 i a)
abbrev z11_87 (a : BII) (a1 : Nat) (j : Nat) : Reach := gD (z11_85 a a1) j
abbrev z11_88 (j : Nat) (a : BII) : Bool := decide (z11_38 j = z11_76 a)
abbrev z11_89 (a : BII) (j : Nat) : Reach := gD (z11_48 a) (z11_38 j)
abbrev z11_90 (a : BII) (a1 : Nat) (j : Nat) : Span := (z11_87 a a1 j).sp
abbrev z11_91 (a : BII) (j : Nat) : Span := (z11_89 a j).sp
abbrev z11_92 (a : BII) (a1 : Nat) : NetL := NetL.mk (z11_77 a) (z11_85 a a1)
abbrev z11_93 (a : Nat) : Nat := (3 : Nat) - a
abbrev z11_94 (a : BII) : Int := IntKind.i64.wrap ((reSp a).lo - (1 : Int))
abbrev z11_95 (a : BII) : Int := IntKind.i64.wrap ((reSp a).hi + (1 : Int))
theorem vc11 (a : BII) : (V11 a) = ((z11_1 a = a.a.length ∧ (∀ (i : Nat), i < z11_1 a → z11_2 a i = gD a.a i) ∧ (6 : Int) = Int.ofNat (6 : Nat) ∧ z11_4 a = z11_1 a ∧ (∀ (i : Nat), i < z11_4 a → gD (z11_3 a) i = z11_2 a
 i) ∧ z11_5 ∧ z11_5 ∧ StmB (1000000000 : Int) (z11_6 a) ∧ (1 : Int) ≤ (6 : Int) ∧ (6 : Int) ≤ (8 : Int)) ∧ bif (↑(z11_9 a) : Int) == (0 : Int) then true = true else (z11_14 a = z11_11 a ∧ (∀ (i : Nat), i < z11_14 a →
 (z11_15 a i).lo = z11_16 a i ∧ (z11_15 a i).hi = z11_17 a i) ∧ z11_20 a = z11_9 a ∧ ∀ (i : Nat), i < z11_20 a → (z11_21 a i).fr = z11_22 a i ∧ (z11_21 a i).to = z11_23 a i ∧ (z11_24 a i).lo = z11_26 a i ∧ (z11_24 a i).hi
 = z11_27 a i) ∧ (z11_34 a ∧ z11_34 a) ∧ bif bif z11_31 a then true else decide (z11_36 a > z11_37 a) then true = false else z11_33 a ∧ (∃ (a_1 : Nat), (reI a = z11_32 a ∧ (reL a).length = (3 : Nat) ∧ (3 : Nat) ≤ (3 :
 Nat) ∧ (∀ (j : Nat), j < (reL a).length → gD (reL a) j = bif decide (z11_38 j = (0 : Nat)) then z11_36 a else bif decide (z11_38 j - (1 : Nat) = (0 : Nat)) then z11_37 a else IntKind.i64.wrap (z11_36 a + pickM a.y
 (IntKind.i64.wrap (IntKind.i64.wrap (z11_37 a - z11_36 a) + (1 : Int))))) ∧ z11_39 ∧ (↑a_1 : Int) = (0 : Int) ∧ (reN a).g.length = z11_11 a ∧ (∀ (i : Nat), i < (reN a).g.length → (gD (reN a).g i).lo = z11_16 a i ∧ (gD
 (reN a).g i).hi = z11_17 a i) ∧ (reN a).r.length = z11_9 a ∧ (∀ (i : Nat), i < (reN a).r.length → (gD (reN a).r i).fr = z11_22 a i ∧ (gD (reN a).r i).to = z11_23 a i ∧ (gD (reN a).r i).sp.lo = z11_26 a i ∧ (gD (reN a).r
 i).sp.hi = z11_27 a i) ∧ (reSp a).lo = z11_36 a ∧ (reSp a).hi = z11_37 a) ∧ z11_40 a a_1) ∧ ∀ (a_1 : Nat), z11_40 a a_1 → bif decide ((↑a_1 : Int) < (3 : Int)) then ((0 : Int) ≤ (↑a_1 : Int) ∧ (↑a_1 : Int) < (↑(reL
 a).length : Int)) ∧ (z11_43 a ∧ z11_47 a ∧ z11_50 a ∧ z11_57 a ∧ reI a = reI a ∧ z11_58 a a_1) ∧ ((!z11_64 a a_1) = true → z11_65 a ∧ reI a < (↑(z11_63 a a_1) : Int)) ∧ bif bif z11_64 a a_1 then true else gD (z11_62 a
 a_1) (reI a).toNat != gD (reL a) a_1 then true = false else (z11_43 a ∧ z11_47 a ∧ z11_50 a ∧ z11_57 a ∧ z11_68 a a_1 = z11_63 a a_1 ∧ (∀ (i : Nat), i < z11_68 a a_1 → gD (z11_67 a a_1) i = z11_66 a a_1 i) ∧ z11_73 a a_1
 = z11_70 a a_1 ∧ (∀ (i : Nat), i < z11_73 a a_1 → gD (z11_72 a a_1) i = z11_71 a a_1 i) ∧ (z11_74 a ∧ z11_49 a ≤ (1000000 : Nat)) ∧ z11_68 a a_1 ≤ (1000000 : Nat) ∧ z11_73 a a_1 ≤ (1000000 : Nat)) ∧ bif bif askM (z11_59
 a) (z11_75 a a_1) != (0 : Int) then true else !holdM (z11_59 a) (z11_75 a a_1) then true = false else (z11_43 a ∧ z11_47 a ∧ z11_50 a ∧ z11_57 a ∧ z11_74 a ∧ (0 : Nat) < z11_49 a ∧ z11_49 a ≤ (1000 : Nat)) ∧ ((z11_65 a ∧
 reI a < (↑(z11_49 a) : Int)) ∧ (z11_76 a).succ.le (z11_49 a)) ∧ (z11_78 a = z11_42 a ∧ (∀ (i : Nat), i < z11_78 a → (z11_79 a i).lo = z11_45 a i ∧ (z11_79 a i).hi = z11_46 a i) ∧ (z11_85 a a_1).length = z11_49 a ∧ (0 :
 Nat) + z11_49 a ≤ z11_49 a ∧ ∀ (j : Nat), j < (rng (z11_49 a) fun (i : Nat) => Reach.mk (bif z11_86 i a then z11_83 a else z11_52 a i) (bif z11_86 i a then z11_84 a else z11_53 a i) (Span.mk (bif z11_86 i a then gD (reL
 a) a_1 else z11_55 a i) (bif z11_86 i a then gD (reL a) a_1 else z11_56 a i))).length → ((z11_87 a a_1 j).fr = bif z11_88 j a then z11_83 a else (z11_89 a j).fr) ∧ ((z11_87 a a_1 j).to = bif z11_88 j a then z11_84 a else
 (z11_89 a j).to) ∧ ((z11_90 a a_1 j).lo = bif z11_88 j a then gD (reL a) a_1 else (z11_91 a j).lo) ∧ (z11_90 a a_1 j).hi = bif z11_88 j a then gD (reL a) a_1 else (z11_91 a j).hi) ∧ bif bif checkL (z11_92 a a_1) != (0 :
 Int) then true else !agrM (z11_92 a a_1) then true = false else ∃ (a_3 : Nat), (reI a = reI a ∧ (reL a).length = (reL a).length ∧ (∀ (i : Nat), i < (reL a).length → z11_58 a i) ∧ z11_39 ∧ (↑a_3 : Int) = IntKind.i64.wrap
 ((↑a_1 : Int) + (1 : Int)) ∧ (reN a).g.length = (reN a).g.length ∧ (∀ (i : Nat), i < (reN a).g.length → (gD (reN a).g i).lo = (gD (reN a).g i).lo ∧ (gD (reN a).g i).hi = (gD (reN a).g i).hi) ∧ (reN a).r.length = (reN
 a).r.length ∧ (∀ (i : Nat), i < (reN a).r.length → (gD (reN a).r i).fr = (gD (reN a).r i).fr ∧ (gD (reN a).r i).to = (gD (reN a).r i).to ∧ (gD (reN a).r i).sp.lo = (gD (reN a).r i).sp.lo ∧ (gD (reN a).r i).sp.hi = (gD
 (reN a).r i).sp.hi) ∧ (reSp a).lo = (reSp a).lo ∧ (reSp a).hi = (reSp a).hi) ∧ z11_40 a a_3 ∧ z11_93 a_3 < z11_93 a_1 else (z11_43 a ∧ z11_47 a ∧ z11_50 a ∧ z11_57 a ∧ reI a = reI a ∧ z11_94 a = z11_94 a) ∧ (z11_43 a ∧
 z11_47 a ∧ z11_50 a ∧ z11_57 a ∧ reI a = reI a ∧ z11_95 a = z11_95 a) ∧ true = bif bif reachE (NRF.mk (z11_59 a) (reI a) (z11_94 a)) == (5 : Int) then reachE (NRF.mk (z11_59 a) (reI a) (z11_95 a)) == (5 : Int) else false
 then true else false) := by kernel_rfl
theorem re1 (a : BII) : madeN (SN.mk (Stm.mk a.a 0 0) 6) = reN a := rfl
theorem re2 (a : BII) : madeTr (SN.mk (Stm.mk a.a 0 0) 6) = reT a := rfl
theorem told_rng {N : NetL} {i : Nat} (hi : i < N.r.length) (x : Int) : rng N.r.length (fun j => Reach.mk (bif decide (j = i) then (gD N.r i).fr else (gD N.r j).fr) (bif decide (j = i) then (gD N.r i).to else (gD N.r j).to) (Span.mk (bif decide (j = i) then x else (gD N.r j).sp.lo) (bif decide (j = i) then x else (gD N.r j).sp.hi))) = (toldN N i ⟨x, x⟩).r := by
  apply gD_ext
  · simp [toldN]
  · intro j hj
    simp only [rng_length] at hj
    rw [rng_get _ _ _ hj, told_r hi]
    by_cases he : j = i
    · subst he; simp
    · simp only [he, decide_false, cond_false, if_false]
theorem p11 (a : BII) (h1 : ByOk a.a) : V11 a := by
  have hm : Made (reN a) (reT a) 6 := mk_ok h1 (by omega)
  have hC := hm.can (by omega)
  obtain ⟨n1, n2, n3, n4, n5, n6⟩ := net_vals hC
  have hg := good_of n1
  have gm := hm.gm
  have r11 := hm.r11
  have st1 := stm0 h1
  obtain ⟨sF, sG⟩ := sp_lens n1
  rw [vc11]; delta z11_0 z11_1 z11_2 z11_3 z11_4 z11_5 z11_6 z11_7 z11_8 z11_9 z11_10 z11_11 z11_12 z11_13 z11_14 z11_15 z11_16 z11_17 z11_18 z11_19 z11_20 z11_21 z11_22 z11_23 z11_24 z11_25 z11_26 z11_27 z11_28 z11_29 z11_30 z11_31 z11_32 z11_33 z11_34 z11_35 z11_36 z11_37 z11_38 z11_39 z11_40 z11_41 z11_42 z11_43 z11_44 z11_45 z11_46 z11_47 z11_48 z11_49 z11_50 z11_51 z11_52 z11_53 z11_54 z11_55 z11_56 z11_57 z11_58 z11_59 z11_60 z11_61 z11_62 z11_63 z11_64 z11_65 z11_66 z11_67 z11_68 z11_69 z11_70 z11_71 z11_72 z11_73 z11_74 z11_75 z11_76 z11_77 z11_78 z11_79 z11_80 z11_81 z11_82 z11_83 z11_84 z11_85 z11_86 z11_87 z11_88 z11_89 z11_90 z11_91 z11_92 z11_93 z11_94 z11_95; simp only [condP, eq_self, implies_true, and_self, true_and, and_true, true_implies, forall_const, decide_eq_true_eq, decide_eq_false_iff_not, Int.toNat_natCast, dSpan_eSpan, dReach_eReach, dWay_eWay, dStep_eStep, dFar_eFar, dInt_eInt, Nat.zero_add, Int.zero_sub, Nat.le_eq, Nat.succ_eq_add_one, Nat.add_one_le_iff, Bool.not_eq_true', Bool.not_eq_false', rng_length, dSpan_mk, dReach_mk, dWay_mk, dStep_mk, dFar_mk, rng_getD, DL.m2, DL.d1, DL.d2, DL.d7, DL.d8, re1, re2, n3, n4]
  refine ⟨⟨rfl, st1.mono (by omega), by omega, by omega⟩, fun h0 => ?_⟩
  have h0 : (reN a).r.length ≠ 0 := fun he => by rw [he] at h0; cases h0
  have hI : 0 ≤ reI a ∧ reI a < (reN a).r.length := pick_in a.x (n := (reN a).r.length) (by omega)
  have eI : pickM a.x (reN a).r.length = reI a := rfl
  rw [eI]
  have hi : (reI a).toNat < (reN a).r.length := by omega
  have hsp : IsSpan (reN a) (fun T => gD T.f (reI a).toNat) (reSp a) := flow_span n1 n2 hi
  have eS : gD (spF (reN a)) (reI a).toNat = reSp a := rfl
  rw [eS]
  have hle := hsp.le
  obtain ⟨Tl, cl, el⟩ := hsp.lo
  obtain ⟨Th, ch, eh⟩ := hsp.hi
  have bl := ((can_iff n1).1 cl).2.1 _ hi
  have bh := ((can_iff n1).1 ch).2.1 _ hi
  have hr := (hm.r _ hi).2
  have w1 : wr (wr ((reSp a).hi - (reSp a).lo) + 1) = (reSp a).hi - (reSp a).lo + 1 := by
    have e : wr ((reSp a).hi - (reSp a).lo) = (reSp a).hi - (reSp a).lo := w64 (by omega) (by omega)
    rw [e]; exact w64 (by omega) (by omega)
  have hP := pick_in a.y (n := (reSp a).hi - (reSp a).lo + 1) (by omega)
  have w2 : wr ((reSp a).lo + pickM a.y ((reSp a).hi - (reSp a).lo + 1)) = (reSp a).lo + pickM a.y ((reSp a).hi - (reSp a).lo + 1) := w64 (by omega) (by omega)
  have eL : reL a = [(reSp a).lo, (reSp a).hi, (reSp a).lo + pickM a.y ((reSp a).hi - (reSp a).lo + 1)] := by unfold reL; rw [w1, w2]
  have hL : ∀ k, k < 3 → (reSp a).lo ≤ gD (reL a) k ∧ gD (reL a) k ≤ (reSp a).hi := fun k hk => by
    rw [eL]
    match k, hk with
    | 0, _ => exact ⟨Int.le_refl _, hle⟩
    | 1, _ => exact ⟨hle, Int.le_refl _⟩
    | 2, _ => show _ ≤ (reSp a).lo + _ ∧ (reSp a).lo + _ ≤ _; omega
  rw [sF]
  have hb : decide ((reSp a).lo > (reSp a).hi) = false := decide_eq_false (by omega)
  rw [hb]
  refine ⟨fun _ => ⟨hI.1, hI.2⟩, fun h => ?_, fun _ => ⟨⟨hI.1, hI.2⟩, ⟨0, ⟨rfl, rfl, by decide, fun j hj => ?_, rfl, rfl, rfl⟩, h0, by decide⟩, fun k ⟨_, hk⟩ => ⟨fun hlt => ?_, fun hge => ?_⟩⟩⟩
  · simp at h
  · have hj : j < 3 := hj
    match j, hj with
    | 0, _ => rfl
    | 1, _ => rfl
    | 2, _ => rfl
  · have hk3 : k < 3 := by omega
    obtain ⟨b1, b2⟩ := hL k hk3
    obtain ⟨e1, e2, e3⟩ := reach_can n1 n2 hi (f := gD (reL a) k) (by omega) ⟨b1, b2⟩
    have ei : (((reI a).toNat : Nat) : Int) = reI a := by omega
    rw [ei] at e1 e2 e3
    obtain ⟨v1, v2, v3, _⟩ := can_vals e2
    obtain ⟨_, l1, l2, _⟩ := askM_to v1
    have ag := told_agr n1 hi e2
    have hn : checkL (toldN (reN a) (reI a).toNat ⟨gD (reL a) k, gD (reL a) k⟩) = 0 := check_good (told_good hg hi (by simp only; omega))
    rw [e3] at ag
    rw [e1, e3, v1, v3, l1, l2, told_rng hi]
    have et : NetL.mk (reN a).g (toldN (reN a) (reI a).toNat ⟨gD (reL a) k, gD (reL a) k⟩).r = toldN (reN a) (reI a).toNat ⟨gD (reL a) k, gD (reL a) k⟩ := rfl
    rw [et, hn, ag]
    refine ⟨⟨by omega, hlt⟩, fun _ => ⟨hI.1, hI.2⟩, fun h => (by simp at h), fun _ => ⟨⟨⟨by omega, by omega⟩, by omega, by omega⟩, fun h => (by cases h), fun _ => ⟨⟨by omega, by omega, by omega⟩, ⟨⟨hI.1, hI.2⟩, hi⟩, ⟨Nat.le_refl _, fun j hj => ?_⟩, fun h => (by cases h), fun _ => ⟨k + 1, (wsucc (by omega)).symm, ⟨h0, by omega⟩, by omega⟩⟩⟩⟩
    rw [told_r hi]
    by_cases he : j = (reI a).toNat
    · subst he; simp
    · simp [he]
  · have ei : (((reI a).toNat : Nat) : Int) = reI a := by omega
    have x1 : IntKind.i64.wrap ((reSp a).lo - 1) = (reSp a).lo - 1 := w64 (by omega) (by omega)
    have x2 : IntKind.i64.wrap ((reSp a).hi + 1) = (reSp a).hi + 1 := w64 (by omega) (by omega)
    have y1 := reachE_eq n1 n2 hi (f := (reSp a).lo - 1) (by omega)
    have y2 := reachE_eq n1 n2 hi (f := (reSp a).hi + 1) (by omega)
    rw [ei, eS, if_neg (by omega)] at y1 y2
    rw [x1, x2, y1, y2]; rfl
theorem c11 (a : BII) (h1 : ByOk a.a) : FnT Try.prog 11 (xsBII a) (heapOf []) (.bool true) [] :=
  fnt (A := A11 a) (ren := []) (fz := []) Try.func11 (by kernel_rfl) (gok_cons ok30 (gok_cons ok29 (gok_cons ok31 (gok_cons ok34t (gok_cons ok38t (gok_cons ok48t (gok_cons ok15o (gok_cons ok19t (gok_cons ok14 gok_nil))))))))) (p11 a h1)
end Go.Bal
