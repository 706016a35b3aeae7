/- Law RatingPassed: its walk. -/
import Derived.Test.YtoihhodbkimedaaRT7
import Derived.Test.YtoihhodbkimedaaRatAr
set_option linter.unusedVariables false
set_option linter.unusedSimpArgs false
namespace Go.Bal
open Go Go.Sym Go.Proofs
structure PaI where
  bs : List Int
  a : Int
def paM2 (x : PaI) : MkI := ⟨⟨x.bs, 0, 0⟩, 14⟩
def paG (x : PaI) : List Gau := mdG (paM2 x)
def paR (x : PaI) : Rtg := mdR (paM2 x)
def paA (x : PaI) : Int := pickV x.a 400
def xPa (x : PaI) : List AVal := [.d (eBys x.bs), .int x.a]
def A_Pa : Ann := ann 190 [(n_New, C_New.spec d_New), (n_Made, C_Made.spec dMkI), (n_Pick, s_Pick), (n_Passes, C_Passes.spec dGR), (n_Through, C_Through.spec dGB), (n_Rate, C_Rate.spec dGs1), (n_Flow, C_Flow.spec dGBt), (n_At, C_At.spec dRtI), (n_sound, s_sound), (n_below, s_below), (n_awake, s_awake)]
def V_Pa (x : PaI) : Prop := fnVC Try.prog A_Pa F_lPassed (bodyOf F_lPassed) (xPa x) (heapOf []) (.bool true) [] [] []
abbrev z_Pa_0 (x : PaI) : List Int := rng x.bs.length fun (i : Nat) => gD x.bs i
abbrev z_Pa_1 (x : PaI) : Nat := (z_Pa_0 x).length
abbrev z_Pa_2 (x : PaI) (i : Nat) : Int := gD (z_Pa_0 x) i
abbrev z_Pa_3 (x : PaI) : List Int := rng (z_Pa_1 x) fun (i : Nat) => z_Pa_2 x i
abbrev z_Pa_4 (x : PaI) : Nat := (z_Pa_3 x).length
abbrev z_Pa_5 : Prop := (0 : Int) = (0 : Int)
abbrev z_Pa_6 (x : PaI) : Stm := Stm.mk (z_Pa_3 x) (0 : Int) (0 : Int)
abbrev z_Pa_7 (x : PaI) : MkI := MkI.mk (z_Pa_6 x) (14 : Int)
abbrev z_Pa_8 (x : PaI) : List Gau := mdG (z_Pa_7 x)
abbrev z_Pa_9 (x : PaI) : Nat := (z_Pa_8 x).length
abbrev z_Pa_10 (x : PaI) (i : Nat) : Gau := gD (z_Pa_8 x) i
abbrev z_Pa_11 (x : PaI) : List Gau := rng (z_Pa_9 x) fun (i : Nat) => z_Pa_10 x i
abbrev z_Pa_12 (x : PaI) : Nat := (z_Pa_11 x).length
abbrev z_Pa_13 (x : PaI) : Prop := z_Pa_12 x = z_Pa_9 x
abbrev z_Pa_14 (x : PaI) (i : Nat) : Gau := gD (z_Pa_11 x) i
abbrev z_Pa_15 (x : PaI) : Prop := ∀ (i : Nat), i < z_Pa_12 x → (z_Pa_14 x i).st = (z_Pa_10 x i).st ∧ (z_Pa_14 x i).lo = (z_Pa_10 x i).lo ∧ (z_Pa_14 x i).hi = (z_Pa_10 x i).hi
abbrev z_Pa_16 (x : PaI) : Rtg := mdR (z_Pa_7 x)
abbrev z_Pa_17 (x : PaI) : List Int := (z_Pa_16 x).b
abbrev z_Pa_18 (x : PaI) : Nat := (z_Pa_17 x).length
abbrev z_Pa_19 (x : PaI) (i : Nat) : Int := gD (z_Pa_17 x) i
abbrev z_Pa_20 (x : PaI) : List Int := rng (z_Pa_18 x) fun (i : Nat) => z_Pa_19 x i
abbrev z_Pa_21 (x : PaI) : Nat := (z_Pa_20 x).length
abbrev z_Pa_22 (x : PaI) : Prop := z_Pa_21 x = z_Pa_18 x
abbrev z_Pa_23 (x : PaI) : Prop := ∀ (i : Nat), i < z_Pa_21 x → gD (z_Pa_20 x) i = z_Pa_19 x i
abbrev z_Pa_24 (x : PaI) : List Ln := (z_Pa_16 x).l
abbrev z_Pa_25 (x : PaI) : Nat := (z_Pa_24 x).length
abbrev z_Pa_26 (x : PaI) (i : Nat) : Ln := gD (z_Pa_24 x) i
abbrev z_Pa_27 (x : PaI) : List Ln := rng (z_Pa_25 x) fun (i : Nat) => z_Pa_26 x i
abbrev z_Pa_28 (x : PaI) : Nat := (z_Pa_27 x).length
abbrev z_Pa_29 (x : PaI) : Prop := z_Pa_28 x = z_Pa_25 x
abbrev z_Pa_30 (x : PaI) (i : Nat) : Ln := gD (z_Pa_27 x) i
abbrev z_Pa_31 (x : PaI) : Prop := ∀ (i : Nat), i < z_Pa_28 x → (z_Pa_30 x i).a0 = (z_Pa_26 x i).a0 ∧ (z_Pa_30 x i).a1 = (z_Pa_26 x i).a1 ∧ (z_Pa_30 x i).b0 = (z_Pa_26 x i).b0 ∧ (z_Pa_30 x i).b1 = (z_Pa_26 x i).b1
abbrev z_Pa_32 (x : PaI) : Prop := z_Pa_12 x < (1073741824 : Nat)
abbrev z_Pa_33 (x : PaI) : Prop := z_Pa_21 x < (1073741824 : Nat) ∧ z_Pa_28 x < (1073741824 : Nat)
abbrev z_Pa_34 (x : PaI) : Prop := z_Pa_12 x < (4611686018427387904 : Nat)
abbrev z_Pa_35 (x : PaI) : Prop := (z_Pa_34 x ∧ z_Pa_21 x < (4611686018427387904 : Nat)) ∧ True
abbrev z_Pa_36 (x : PaI) : Prop := pickV x.a (400 : Int) = pickV x.a (400 : Int)
abbrev z_Pa_37 (x : PaI) : Rtg := Rtg.mk (z_Pa_20 x) (z_Pa_27 x)
abbrev z_Pa_38 (x : PaI) : GR := GR.mk (z_Pa_11 x) (z_Pa_37 x)
abbrev z_Pa_39 (x : PaI) : GB := GB.mk (z_Pa_11 x) (z_Pa_20 x)
abbrev z_Pa_40 (x : PaI) : FR := fewM (z_Pa_11 x)
abbrev z_Pa_41 (x : PaI) : GBt := GBt.mk (z_Pa_11 x) (z_Pa_20 x) (pickV x.a (400 : Int))
abbrev z_Pa_42 (x : PaI) : RtI := RtI.mk (z_Pa_37 x) (pickV x.a (400 : Int))
abbrev z_Pa_43 (x : PaI) : Rtg := (z_Pa_40 x).r
abbrev z_Pa_44 (x : PaI) : List Ln := (z_Pa_43 x).l
abbrev z_Pa_45 (x : PaI) : Nat := (z_Pa_44 x).length
abbrev z_Pa_46 (x : PaI) : List Int := (z_Pa_43 x).b
abbrev z_Pa_47 (x : PaI) : Nat := (z_Pa_46 x).length
abbrev z_Pa_48 (x : PaI) : Bnd := flowB (z_Pa_41 x)
abbrev z_Pa_49 (x : PaI) : Rt := (z_Pa_48 x).lo
abbrev z_Pa_50 (x : PaI) : Rt := (z_Pa_48 x).hi
abbrev z_Pa_51 (x : PaI) : Rt := atM (z_Pa_42 x)
abbrev z_Pa_52 (x : PaI) (i : Nat) : Int := gD (z_Pa_46 x) i
abbrev z_Pa_53 (x : PaI) : List Int := rng (z_Pa_47 x) fun (i : Nat) => z_Pa_52 x i
abbrev z_Pa_54 (x : PaI) : Nat := (z_Pa_53 x).length
abbrev z_Pa_55 (x : PaI) : Prop := z_Pa_54 x = z_Pa_47 x
abbrev z_Pa_56 (x : PaI) : Prop := ∀ (i : Nat), i < z_Pa_54 x → gD (z_Pa_53 x) i = z_Pa_52 x i
abbrev z_Pa_57 (x : PaI) (i : Nat) : Ln := gD (z_Pa_44 x) i
abbrev z_Pa_58 (x : PaI) : List Ln := rng (z_Pa_45 x) fun (i : Nat) => z_Pa_57 x i
abbrev z_Pa_59 (x : PaI) : Nat := (z_Pa_58 x).length
abbrev z_Pa_60 (x : PaI) : Prop := z_Pa_59 x = z_Pa_45 x
abbrev z_Pa_61 (x : PaI) (i : Nat) : Ln := gD (z_Pa_58 x) i
abbrev z_Pa_62 (x : PaI) : Prop := ∀ (i : Nat), i < z_Pa_59 x → (z_Pa_61 x i).a0 = (z_Pa_57 x i).a0 ∧ (z_Pa_61 x i).a1 = (z_Pa_57 x i).a1 ∧ (z_Pa_61 x i).b0 = (z_Pa_57 x i).b0 ∧ (z_Pa_61 x i).b1 = (z_Pa_57 x i).b1
abbrev z_Pa_63 (x : PaI) : Prop := z_Pa_54 x < (1073741824 : Nat) ∧ z_Pa_59 x < (1073741824 : Nat)
abbrev z_Pa_64 (x : PaI) : Prop := (z_Pa_34 x ∧ z_Pa_54 x < (4611686018427387904 : Nat)) ∧ True
abbrev z_Pa_65 (x : PaI) : Rtg := Rtg.mk (z_Pa_53 x) (z_Pa_58 x)
abbrev z_Pa_66 (x : PaI) : GR := GR.mk (z_Pa_11 x) (z_Pa_65 x)
abbrev z_Pa_67 (x : PaI) : GB := GB.mk (z_Pa_11 x) (z_Pa_53 x)
abbrev z_Pa_68 (x : PaI) : GBt := GBt.mk (z_Pa_11 x) (z_Pa_53 x) (pickV x.a (400 : Int))
abbrev z_Pa_69 (x : PaI) : RtI := RtI.mk (z_Pa_65 x) (pickV x.a (400 : Int))
abbrev z_Pa_70 (x : PaI) : Bnd := flowB (z_Pa_68 x)
abbrev z_Pa_71 (x : PaI) : Rt := (z_Pa_70 x).lo
abbrev z_Pa_72 (x : PaI) : Rt := (z_Pa_70 x).hi
abbrev z_Pa_73 (x : PaI) : Rt := atM (z_Pa_69 x)
theorem vc_Pa (x : PaI) : (V_Pa x) = ((z_Pa_1 x = x.bs.length ∧ (∀ (i : Nat), i < z_Pa_1 x → z_Pa_2 x i = gD x.bs i) ∧ (14 : Int) = Int.ofNat (14 : Nat) ∧ z_Pa_4 x = z_Pa_1 x ∧ (∀ (i : Nat), i < z_Pa_4 x → gD (z_Pa_3 x)
 i = z_Pa_2 x i) ∧ z_Pa_5 ∧ z_Pa_5 ∧ (StmB (0 : Int) (z_Pa_6 x) ∧ (1 : Int) ≤ (14 : Int) ∧ (14 : Int) ≤ (100 : Int)) ∧ True) ∧ (z_Pa_13 x ∧ z_Pa_15 x ∧ z_Pa_22 x ∧ z_Pa_23 x ∧ z_Pa_29 x ∧ z_Pa_31 x ∧ z_Pa_32 x ∧ z_Pa_33
 x) ∧ (z_Pa_13 x ∧ z_Pa_15 x ∧ z_Pa_22 x ∧ z_Pa_23 x ∧ z_Pa_35 x) ∧ (z_Pa_13 x ∧ z_Pa_15 x ∧ z_Pa_12 x < (20 : Nat) ∧ True) ∧ (z_Pa_13 x ∧ z_Pa_15 x ∧ z_Pa_22 x ∧ z_Pa_23 x ∧ z_Pa_36 x ∧ z_Pa_35 x) ∧ (z_Pa_22 x ∧ z_Pa_23
 x ∧ z_Pa_29 x ∧ z_Pa_31 x ∧ z_Pa_36 x ∧ z_Pa_33 x) ∧ bif bif bif bif bif bif bif bif bif bif bif bif pasE (z_Pa_38 x) != (0 : Int) then true else openE (z_Pa_39 x) != (0 : Int) then true else (z_Pa_40 x).e != (0 : Int)
 then true else flowE (z_Pa_41 x) != (0 : Int) then true else atE (z_Pa_42 x) != (0 : Int) then true else (↑(pasM (z_Pa_38 x)).length : Int) != (0 : Int) then true else !thrM (z_Pa_39 x) then true else decide ((↑(z_Pa_45
 x) : Int) > (↑(z_Pa_25 x) : Int)) then true else IntKind.i64.wrap ((↑(z_Pa_47 x) : Int) + (1 : Int)) != (↑(z_Pa_45 x) : Int) then true else !sndM (Bnd.mk (z_Pa_49 x) (z_Pa_50 x)) then true else belM (z_Pa_51 x) (z_Pa_49
 x) then true else belM (z_Pa_50 x) (z_Pa_51 x) then true = false else (z_Pa_13 x ∧ z_Pa_15 x ∧ z_Pa_55 x ∧ z_Pa_56 x ∧ z_Pa_60 x ∧ z_Pa_62 x ∧ z_Pa_32 x ∧ z_Pa_63 x) ∧ (z_Pa_13 x ∧ z_Pa_15 x ∧ z_Pa_55 x ∧ z_Pa_56 x ∧
 z_Pa_64 x) ∧ bif bif bif bif pasE (z_Pa_66 x) != (0 : Int) then true else openE (z_Pa_67 x) != (0 : Int) then true else (↑(pasM (z_Pa_66 x)).length : Int) != (0 : Int) then true else !thrM (z_Pa_67 x) then true = false
 else (z_Pa_13 x ∧ z_Pa_15 x ∧ z_Pa_55 x ∧ z_Pa_56 x ∧ z_Pa_36 x ∧ z_Pa_64 x) ∧ (z_Pa_55 x ∧ z_Pa_56 x ∧ z_Pa_60 x ∧ z_Pa_62 x ∧ z_Pa_36 x ∧ z_Pa_63 x) ∧ true = bif bif bif bif bif flowE (z_Pa_68 x) == (0 : Int) then atE
 (z_Pa_69 x) == (0 : Int) else false then sndM (Bnd.mk (z_Pa_71 x) (z_Pa_72 x)) else false then !belM (z_Pa_73 x) (z_Pa_71 x) else false then !belM (z_Pa_72 x) (z_Pa_73 x) else false then true else false) := by kernel_rfl
theorem preM_of {bs : List Int} (h : okBy bs) {m : Int} (hm : 1 ≤ m ∧ m ≤ 100) : preM ⟨⟨bs, 0, 0⟩, m⟩ := ⟨⟨⟨Int.le_refl _, Int.le_refl _⟩, ⟨Int.le_refl _, by show (0 : Int) < 251; omega⟩, h⟩, hm⟩
theorem bnd_eta (b : Bnd) : Bnd.mk b.lo b.hi = b := rfl
theorem rtg_eta (r : Rtg) : Rtg.mk r.b r.l = r := rfl
theorem p_Pa (x : PaI) (hb : okBy x.bs) : V_Pa x := by
  rw [vc_Pa]; delta z_Pa_0 z_Pa_1 z_Pa_2 z_Pa_3 z_Pa_4 z_Pa_5 z_Pa_6 z_Pa_7 z_Pa_8 z_Pa_9 z_Pa_10 z_Pa_11 z_Pa_12 z_Pa_13 z_Pa_14 z_Pa_15 z_Pa_16 z_Pa_17 z_Pa_18 z_Pa_19 z_Pa_20 z_Pa_21 z_Pa_22 z_Pa_23 z_Pa_24 z_Pa_25 z_Pa_26 z_Pa_27 z_Pa_28 z_Pa_29 z_Pa_30 z_Pa_31 z_Pa_32 z_Pa_33 z_Pa_34 z_Pa_35 z_Pa_36 z_Pa_37 z_Pa_38 z_Pa_39 z_Pa_40 z_Pa_41 z_Pa_42 z_Pa_43 z_Pa_44 z_Pa_45 z_Pa_46 z_Pa_47 z_Pa_48 z_Pa_49 z_Pa_50 z_Pa_51 z_Pa_52 z_Pa_53 z_Pa_54 z_Pa_55 z_Pa_56 z_Pa_57 z_Pa_58 z_Pa_59 z_Pa_60 z_Pa_61 z_Pa_62 z_Pa_63 z_Pa_64 z_Pa_65 z_Pa_66 z_Pa_67 z_Pa_68 z_Pa_69 z_Pa_70 z_Pa_71 z_Pa_72 z_Pa_73; simp only [condP, eq_self, implies_true, and_self, true_and, and_true, true_implies, forall_const, decide_eq_true_eq, decide_eq_false_iff_not, Int.toNat_natCast, dSpan_eSpan, dInt_eInt, dGau_e, dPt_e, dLn_e, dRt_e, Nat.zero_add, Int.zero_sub, Nat.le_eq, Nat.succ_eq_add_one, Nat.add_one_le_iff, Bool.not_eq_true', Bool.not_eq_false', rng_length, dSpan_mk, rng_getD, stm_eta, show MkI.mk ⟨x.bs, 0, 0⟩ 14 = paM2 x from rfl, show mdG (paM2 x) = paG x from rfl, show mdR (paM2 x) = paR x from rfl, show pickV x.a 400 = paA x from rfl, bnd_eta, rtg_eta]
  have hpre : preM (paM2 x) := preM_of hb (by omega)
  obtain ⟨hF, hlen⟩ := made_fits hpre
  have hlen : (paG x).length ≤ 14 := hlen
  have hR : RtOk (paG x) (paR x) := hF.rtOk (by show (paG x).length ≤ 24; omega)
  have hT := hR.thru
  obtain ⟨e1, hW, hle⟩ := few_thru hR.chk hT.can
  have hQ : RtOk (paG x) (fewM (paG x)).r := hW.rtOk hR.chk
  have hU := hQ.thru
  have tA : 0 ≤ paA x ∧ paA x ≤ 2000 := by have := pick_in x.a (n := 400) (by omega); unfold paA; omega
  obtain ⟨p1, p2⟩ := hR.passes
  obtain ⟨q1, q2⟩ := hQ.passes
  obtain ⟨f1, f2, f3, f4⟩ := hT.sound tA
  obtain ⟨g1, g2, g3, g4⟩ := hU.sound tA
  obtain ⟨a1, a2, a3, a4⟩ := hR.at tA
  obtain ⟨c1, c2, c3, c4⟩ := hQ.at tA
  have bl := hR.few
  have ll := hR.lines
  have bq := hQ.few
  have lq := hQ.lines
  have ew : IntKind.i64.wrap (((fewM (paG x)).r.b.length : Int) + 1) = ((fewM (paG x)).r.l.length : Int) := by rw [w64 (by omega) (by omega), lq]; rfl
  rw [p1, hT.open, e1, f1, a1, p2, hT.thr, decide_eq_false (show ¬((fewM (paG x)).r.l.length : Int) > ((paR x).l.length : Int) by omega), ew, f4, (bel_iff a2 f2).2 a3, (bel_iff f3 a2).2 a4, q1, hU.open, q2, hU.thr, g1, c1, g4, (bel_iff c2 g2).2 c3, (bel_iff g3 c2).2 c4]
  refine ⟨⟨rfl, hpre⟩, ⟨by omega, by omega, by omega⟩, ⟨by omega, by omega⟩, by omega, ⟨by omega, by omega⟩, ⟨by omega, by omega⟩, fun hc => ?_, fun _ => ⟨⟨by omega, by omega, by omega⟩, ⟨by omega, by omega⟩, fun hc => ?_, fun _ => ?_⟩⟩
  · simp at hc
  · simp at hc
  · exact ⟨⟨by omega, by omega⟩, ⟨by omega, by omega⟩, rfl⟩
theorem ok_Pa (x : PaI) (hb : okBy x.bs) : FnT Try.prog n_lPassed (xPa x) (heapOf []) (.bool true) [] := fnt (A := A_Pa) (ren := []) (fz := []) fn_lPassed (by kernel_rfl) (gok_cons ok_New (gok_cons ok_Made (gok_cons ok_Pick (gok_cons ok_Passes (gok_cons ok_Through (gok_cons ok_Rate (gok_cons ok_Flow (gok_cons ok_At (gok_cons ok_sound (gok_cons ok_below (gok_cons ok_awake gok_nil))))))))))) (p_Pa x hb)
end Go.Bal
