/- Law ChartPeaks: it returns true. -/
import Derived.Test.YtdbjalgfomknhaaChPk1
import Derived.Test.YtdbjalgfomknhaaChP
import Derived.Test.YtdbjalgfomknhaaChW1
set_option linter.unusedVariables false
set_option linter.unusedSimpArgs false
namespace Go.Bal
open Go Go.Sym Go.Proofs
theorem tpL_s {l : List Span} {k : Nat} (h : k < l.length) : tpL l (k + 1) = maxI (tpL l k) (gD l k).lo := by
 unfold tpL; rw [take_snoc h, List.map_append, List.foldl_append]; rfl
theorem tpH_s {l : List Span} {k : Nat} (h : k < l.length) : tpH l (k + 1) = maxI (tpH l k) (gD l k).hi := by
 unfold tpH; rw [take_snoc h, List.map_append, List.foldl_append]; rfl
theorem tpL_e (l : List Span) : tpL l l.length = gLo l := by unfold tpL gLo; rw [List.take_length]
theorem tpH_e (l : List Span) : tpH l l.length = gHi l := by unfold tpH gHi; rw [List.take_length]
theorem rng0I (f : Nat -> Int) : rng 0 f = nilI := rfl
set_option maxHeartbeats 2000000 in
theorem p_Pw (x : PwI) (hb : ∀ i, i < x.bs.length -> 0 <= gD x.bs i /\ gD x.bs i <= 255) : V_Pw x := by
 obtain ⟨pre, md, st, all, fe, fb, fo, fin⟩ := pw_facts x hb
 have hl : (pwL x).length = (pwC x).ms.length := stgL_len _
 have n1 : 1 <= (pwC x).ms.length /\ (pwC x).ms.length <= 40 := md.ok.m
 have n2 : (pwC x).ns.length <= 20 := md.ok.n
 have tl : (pwT x).t.length = (pwC x).ms.length := md.len.2.1
 have hs : StmB 0 ⟨x.bs, 0, 0⟩ := pre.1
 rw [vc_Pw]; delta z_Pw_0 z_Pw_1 z_Pw_2 z_Pw_3 z_Pw_4 z_Pw_5 z_Pw_6 z_Pw_7 z_Pw_8 z_Pw_9 z_Pw_10 z_Pw_11 z_Pw_12 z_Pw_13 z_Pw_14 z_Pw_15 z_Pw_16 z_Pw_17 z_Pw_18 z_Pw_19 z_Pw_20 z_Pw_21 z_Pw_22 z_Pw_23 z_Pw_24 z_Pw_25 z_Pw_26 z_Pw_27 z_Pw_28 z_Pw_29 z_Pw_30 z_Pw_31 z_Pw_32 z_Pw_33 z_Pw_34 z_Pw_35 z_Pw_36 z_Pw_37 z_Pw_38 z_Pw_39 z_Pw_40 z_Pw_41 z_Pw_42 z_Pw_43 z_Pw_44 z_Pw_45 z_Pw_46 z_Pw_47 z_Pw_48 z_Pw_49 z_Pw_50 z_Pw_51 z_Pw_52 z_Pw_53 z_Pw_54 z_Pw_55 z_Pw_56 z_Pw_57 z_Pw_58 z_Pw_59 z_Pw_60 z_Pw_61 z_Pw_62 z_Pw_63 z_Pw_64 z_Pw_65 z_Pw_66 z_Pw_67 z_Pw_68 z_Pw_69 z_Pw_70 z_Pw_71 z_Pw_72 z_Pw_73 z_Pw_74 z_Pw_75 z_Pw_76 z_Pw_77 z_Pw_78 z_Pw_79 z_Pw_80 z_Pw_81 z_Pw_82 z_Pw_83 z_Pw_84 z_Pw_85 z_Pw_86 z_Pw_87 z_Pw_88 z_Pw_89 z_Pw_90 z_Pw_91 z_Pw_92 z_Pw_93 z_Pw_94 z_Pw_95 z_Pw_96 z_Pw_97 z_Pw_98; simp only [condP, eq_self, implies_true, and_self, true_and, and_true, true_implies, forall_const, decide_eq_true_eq, decide_eq_false_iff_not, Int.toNat_natCast, dSpan_eSpan, dInt_eInt, dMk_e, dNt_e, dPr_e, Nat.zero_add, Int.zero_sub, Nat.le_eq, Nat.succ_eq_add_one, Nat.add_one_le_iff, Bool.not_eq_true', Bool.not_eq_false', rng_length, dSpan_mk, rng_getD, rng0I, show MkI.mk (Stm.mk x.bs 0 0) 10 false = pwM x from rfl, show mdC (pwM x) = pwC x from rfl, show mdT (pwM x) = pwT x from rfl, cht_eta, show CZ.mk (pwC x) nilI = pwZ x from rfl, show IntKind.i64.wrap ((pwC x).base + pickV x.s 800) = pwLim x from rfl, show IntKind.i64.wrap (gD (pwT x).t (Int.toNat 0) + pickV x.a 300) = pwA x from rfl, show IntKind.i64.wrap (pwA x + pickV x.f 300) = pwB x from rfl, show IntKind.i64.wrap (IntKind.i64.wrap (pwB x + 1) + pickV x.g 300) = pwD x from rfl, show peakV ⟨pwZ x, pwA x, pwB x⟩ = pwX x from rfl, show peakV ⟨pwZ x, IntKind.i64.wrap (pwB x + 1), pwD x⟩ = pwY x from rfl, show peakV ⟨pwZ x, pwA x, pwD x⟩ = pwW x from rfl, st, all, fb, fo]
 clear pre md st all fb fo
 generalize firstV ⟨pwZ x, pwLim x⟩ = F at *
 generalize pwC x = C at *
 generalize pwL x = L at *
 generalize pwT x = T at *
 generalize pwX x = X at *
 generalize pwY x = Y at *
 generalize pwW x = W at *
 generalize pwLim x = M at *
 generalize pwA x = A at *
 generalize pwB x = B at *
 generalize pwD x = D at *
 have hN : nilI.length = 0 /\ nilI.length = 0 /\ C.ms.length < 4611686018427387904 /\ C.ns.length < 4611686018427387904 /\ nilI.length < 4611686018427387904 := ⟨rfl, rfl, by omega, by omega, by decide⟩
 refine ⟨⟨rfl, hs, by decide, by decide⟩, ⟨by omega, by omega⟩, λ h => ?_, λ _ => ⟨⟨by decide, by omega⟩, ⟨⟨0, ⟨rfl, rfl, rfl⟩, Nat.zero_le _⟩, λ k hk => ⟨λ h => ⟨⟨by omega, h⟩, k + 1, ⟨(wsucc (by omega)).symm, tpL_s (by omega), tpH_s (by omega)⟩, by omega, by omega⟩, λ h => ⟨default, ?_, ?_⟩⟩⟩, ⟨rfl, rfl, rfl, rfl, hN.2.2⟩, λ h => ?_, λ _ => ⟨hN, ⟨λ h => ?_, λ _ => ⟨default, trivial⟩⟩, ⟨by decide, by omega⟩, ⟨default, trivial⟩, hN, hN, ⟨hN, default, trivial⟩, ?_⟩⟩⟩
 ·simp [hl] at h
 ·obtain rfl : k = L.length := by omega
  exact (tpL_e _).symm
 ·obtain rfl : k = L.length := by omega
  exact (tpH_e _).symm
 ·simp at h
 ·rcases fe with e | e <;> simp [e] at h
 ·rcases fin with ⟨w, a, b⟩ | ⟨w, wl, ⟨a, b, c, d, e⟩ | ⟨a, b, c⟩ | ⟨a, b, c⟩⟩
  ·simp [w, a, b]
  ·simp [w, a, b]
   exact ⟨⟨d, e⟩, λ _ _ => ⟨c, wl⟩⟩
  ·simp [w, a, b]
   omega
  ·simp [w, a, b]
   omega
theorem ok_Pw (x : PwI) (hb : ∀ i, i < x.bs.length -> 0 <= gD x.bs i /\ gD x.bs i <= 255) : FnT Try.prog n_lPeaks (xPw x) (heapOf []) (.bool true) [] :=
 fnt (A := A_Pw x) (ren := []) (fz := []) fn_lPeaks (by kernel_rfl) (gok_cons ok_New (gok_cons ok_MadeF (gok_cons okStages (gok_cons ok_Peak (gok_cons ok_Pick (gok_cons ok_First (gok_cons ok_awake gok_nil))))))) (p_Pw x hb)
end Go.Bal
