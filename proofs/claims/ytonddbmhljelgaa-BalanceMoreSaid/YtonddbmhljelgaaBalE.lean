/- Package balance: reach, with the rules that take every step. -/
import Derived.Test.YtonddbmhljelgaaBalD
set_option linter.unusedVariables false
set_option linter.unusedSimpArgs false
namespace Go.Bal
open Go Go.Sym Go.Proofs
theorem Fb {m : Map} {t : Int} {x : Far} (h0 : 0 <= t) (h : t.toNat < m.length) (z : Int) : Map.far (m.set t.toNat (some x)) z = if z = t then x else m.far z := by
 unfold Map.far; rw [XX h0 h]; split <;> rfl
theorem YD (d : Desk) (s : Step) : DB ⟨d.all, d.out, d.nR⟩ ⟨s.way, s.back⟩ = DB d s := rfl
theorem SB (h : Int -> Bool) (n : Int) : EE h n n = true := by simp [EE]
theorem VY (h : Int -> Bool) (st : Int -> Int) (n : Int) : stUp h st n n = st n := by unfold stUp; cases h n <;> simp
theorem MB (d : Desk) (c : Step -> Bool) (fr : Int) : CK d c fuel (FG d fr) = EJ d c fr := by
 unfold CK EJ
 have : (FG d fr).ag = true := rfl
 rw [if_pos this]
theorem Es {x y : Far} {b : Bool} {f : Far} (h : f = bif b then x else y) : f.cost = (bif b then x.cost else y.cost) /\ f.many = (bif b then x.many else y.many) /\ f.by'.way = (bif b then x.by'.way else y.by'.way) /\ f.by'.back = (bif b then x.by'.back else y.by'.back) := by
 subst h; cases b <;> exact ⟨rfl, rfl, rfl, rfl⟩
theorem NY {d : Desk} {c : Step -> Bool} {k : Nat} {r rf : RT} (hr : r.ag = false) (h : CK d c k r = some rf) : rf = r := by
 unfold CK at h; rw [hr, if_neg (by decide)] at h; exact (Option.some.inj h).symm
theorem SJ {m : Map} {t : Int} {x : Far} (h0 : 0 <= t) (h : t.toNat < m.length) (n : Int) : (Map.at (m.set t.toNat (some x)) n).isSome = EE (λ z => (m.at z).isSome) t n := by
 rw [XX h0 h]; unfold EE
 by_cases he : n = t <;> simp [he]
theorem p57 (a : DF) (hd : a.d.ok) (hfr : 0 <= a.fr /\ a.fr < a.d.out + 2) (hr : (EJ a.d any a.fr).isSome = true) : V57 a := by
 have hrf : EJ a.d any a.fr = some (HK a.d any a.fr) := by
  obtain ⟨r, h⟩ := Option.isSome_iff_exists.1 hr
  simp [HK, h]
 have ho := hd.out
 have hlen := hd.len
 rw [vc57]; (conv => zeta)
 simp only [CC, eq_self, implies_true, forall_const, LT, NV, NK, List.headD_cons, List.getD_cons_succ, List.getD_cons_zero, if_true, beq_iff_eq, YD]
 have hRx : RA.counts = any := rfl
 rw [hRx]
 generalize hrf' : HK a.d any a.fr = rf at *
 have hw2 : IntKind.i64.wrap ((a.d.out : Int) + 2) = ((a.d.out + 2 : Nat) : Int) := Hu (by omega)
 refine ⟨⟨⟨FG a.d a.fr, fuel, 0, default, default⟩, ⟨rfl, rfl, λ n => ?_, λ n => ?_, λ n => ?_⟩, by simp [FG], ?_⟩, λ a1 ⟨hl1, hp1⟩ => ⟨λ hag => ?_, λ hag => ?_⟩⟩
 ·show (Map.at (FG a.d a.fr).m n).isSome = _
  rw [JJ a.d hfr]; unfold EE; by_cases he : n = a.fr <;> simp [he]
 ·show (FG a.d a.fr).st n = _
  unfold FG stUp; by_cases he : n = a.fr <;> simp [he]
 ·refine Es (x := ⟨0, 0, ⟨0, false⟩⟩) (y := ⟨0, 0, ⟨0, false⟩⟩) ?_
  show Map.far (FG a.d a.fr).m n = _
  unfold Map.far; rw [JJ a.d hfr]; by_cases he : n = a.fr <;> simp [he]
 ·show CK a.d any fuel (FG a.d a.fr) = _
  rw [MB]; exact hrf
 ·obtain ⟨k', hk', hpe⟩ := SH hag hp1
  refine ⟨⟨⟨{ a1.r with ag := false }, k', 0, default, default⟩, ⟨by rw [hw2]; rfl, rfl, rfl, λ _ => rfl, λ _ => rfl, λ _ => ⟨rfl, rfl, rfl, rfl⟩⟩, hl1, by simp, hk'.symm, hpe⟩, λ a4 ⟨hl4, hp4, hk4, he4⟩ => ⟨λ hlt => ⟨rfl, λ hno => ?_, λ hyes => ⟨λ a8 ⟨hs8, hl8⟩ => ?_, ?_⟩⟩, λ hge => ?_⟩⟩
  ·refine ⟨⟨a4.r, a4.k, a4.p + 1, default, default⟩, ⟨(BB (by omega)).symm, rfl, λ _ => rfl, λ _ => rfl, λ _ => ⟨rfl, rfl, rfl, rfl⟩⟩, ⟨hl4, by show a4.p + 1 <= _; omega, hk4, ?_⟩, by show _ - (a4.p + 1) < _; omega⟩
   have hno : a4.r.m.at a4.p = none := by simpa using hno
   rw [show a.d.out + 2 - a4.p = a.d.out + 2 - (a4.p + 1) + 1 by omega, JS hno] at he4
   exact he4
  ·have ht := In hd hs8
   refine ⟨hs8, ⟨hs8, rfl⟩, λ hb => ?_, λ hb => ?_⟩
   ·have hb : JI a8.r.m (DB a.d a8.s) (wr (a8.h.cost + (AV (BW a.d.all a8.s.way) a8.s.back).1)) (wr (a8.h.many + 1)) = true := hb
    have e : (BE a.d RA a8).r = ⟨a8.r.m.set (DB a.d a8.s).toNat (some ⟨wr (a8.h.cost + (AV (BW a.d.all a8.s.way) a8.s.back).1), wr (a8.h.many + 1), a8.s⟩), true, Sym.stUp (λ z => (a8.r.m.at z).isSome) a8.r.st (DB a.d a8.s)⟩ := by
     show DN a.d any a8.h a8.r a8.s = _
     rw [MJ rfl, if_pos hb]
    rw [e]
    refine ⟨⟨hs8, rfl, SB _ _, (VY _ _ _).symm⟩, rfl, λ n => SJ ht.1 (by omega) n, λ n => rfl, λ n => ?_⟩
    have := Fb (m := a8.r.m) (x := ⟨wr (a8.h.cost + (AV (BW a.d.all a8.s.way) a8.s.back).1), wr (a8.h.many + 1), a8.s⟩) ht.1 (by omega) n
    simp only [this]
    by_cases he : n = DB a.d a8.s
    ·simp [he]
    ·simp [he]
   ·have hb : JI a8.r.m (DB a.d a8.s) (wr (a8.h.cost + (AV (BW a.d.all a8.s.way) a8.s.back).1)) (wr (a8.h.many + 1)) = false := hb
    have e : (BE a.d RA a8).r = a8.r := by
     show DN a.d any a8.h a8.r a8.s = _
     rw [MJ rfl, hb]; rfl
    rw [e]
    exact ⟨rfl, λ _ => rfl, λ _ => rfl, λ _ => ⟨rfl, rfl, rfl, rfl⟩⟩
  ·have hpl : a.d.out + 2 - (a.d.out + 2 - a4.p) = a4.p := by omega
   have hpl2 : a.d.out + 2 - a4.p - 1 = a.d.out + 2 - (a4.p + 1) := by omega
   simp only [hpl, hpl2]
   refine ⟨⟨⟨a4.r, a4.k, 0, a4.r.m.far a4.p, default⟩, ⟨rfl, rfl, λ _ => rfl, λ _ => rfl, λ _ => ⟨rfl, rfl, rfl, rfl⟩, trivial, rfl, rfl, rfl, rfl⟩, hl4, by simp, hk4, ?_⟩, λ a5 ⟨hl5, hp5, hk5, he5⟩ => ⟨λ h6 => ⟨⟨by omega, by omega⟩, by omega, λ hF => ?_, λ hF => ⟨λ hT => ?_, λ hT => ?_⟩⟩, λ h6 => ?_⟩⟩
   ·obtain ⟨f, hf⟩ := Option.isSome_iff_exists.1 hyes
    rw [show a.d.out + 2 - a4.p = a.d.out + 2 - (a4.p + 1) + 1 by omega, JR hf] at he4
    show CK a.d any a4.k (AU a.d any _ _ (CG a.d any (a4.r.m.far a4.p) a4.p (a.d.all.drop 0) 0 a4.r)) = _
    rw [YB hf, List.drop_zero]; exact he4
   ·have hp5' : 0 <= (a5.p : Int) /\ (a5.p : Int) < a.d.all.length := ⟨by omega, by omega⟩
    have hlr : ∀ h r s, (DN a.d any h r s).m.length = r.m.length := GU a.d any
    refine ⟨⟨a5.r, 0, 0, a5.h, ⟨a5.p, false⟩⟩, ⟨rfl, rfl, rfl, λ _ => rfl, λ _ => rfl, λ _ => ⟨rfl, rfl, rfl, rfl⟩, rfl, rfl, rfl, rfl, hp5', hl5⟩, λ hT => ?_, λ hT => ?_⟩
    ·refine ⟨⟨(BE a.d RA ⟨a5.r, 0, 0, a5.h, ⟨a5.p, false⟩⟩).r, 0, 0, a5.h, ⟨a5.p, true⟩⟩, ⟨rfl, rfl, rfl, λ _ => rfl, λ _ => rfl, λ _ => ⟨rfl, rfl, rfl, rfl⟩, rfl, rfl, rfl, rfl, hp5', (hlr _ _ _).trans hl5⟩, ?_⟩
     refine ⟨⟨(BE a.d RA ⟨(BE a.d RA ⟨a5.r, 0, 0, a5.h, ⟨a5.p, false⟩⟩).r, 0, 0, a5.h, ⟨a5.p, true⟩⟩).r, a5.k, a5.p + 1, a5.h, default⟩, ⟨(BB (by omega)).symm, rfl, λ _ => rfl, λ _ => rfl, λ _ => ⟨rfl, rfl, rfl, rfl⟩, rfl, rfl, rfl, rfl⟩, ⟨(hlr _ _ _).trans ((hlr _ _ _).trans hl5), by show a5.p + 1 <= _; omega, hk5, ?_⟩, by show _ - (a5.p + 1) < _; omega⟩
     rw [DC a.d any _ _ (by omega)] at he5
     simp only [if_pos hF, if_pos hT] at he5
     exact he5
    ·refine ⟨⟨(BE a.d RA ⟨a5.r, 0, 0, a5.h, ⟨a5.p, false⟩⟩).r, a5.k, a5.p + 1, a5.h, default⟩, ⟨(BB (by omega)).symm, rfl, λ _ => rfl, λ _ => rfl, λ _ => ⟨rfl, rfl, rfl, rfl⟩, rfl, rfl, rfl, rfl⟩, ⟨(hlr _ _ _).trans hl5, by show a5.p + 1 <= _; omega, hk5, ?_⟩, by show _ - (a5.p + 1) < _; omega⟩
     have hT : ¬ (gD a.d.all a5.p).to = (a4.p : Int) := by simpa using hT
     rw [DC a.d any _ _ (by omega)] at he5
     simp only [if_pos hF, if_neg hT] at he5
     exact he5
   ·have hp5' : 0 <= (a5.p : Int) /\ (a5.p : Int) < a.d.all.length := ⟨by omega, by omega⟩
    have hlr : ∀ h r s, (DN a.d any h r s).m.length = r.m.length := GU a.d any
    have hF : ¬ (gD a.d.all a5.p).fr = (a4.p : Int) := by simpa using hF
    refine ⟨⟨a5.r, 0, 0, a5.h, ⟨a5.p, true⟩⟩, ⟨rfl, rfl, rfl, λ _ => rfl, λ _ => rfl, λ _ => ⟨rfl, rfl, rfl, rfl⟩, rfl, rfl, rfl, rfl, hp5', hl5⟩, ?_⟩
    refine ⟨⟨(BE a.d RA ⟨a5.r, 0, 0, a5.h, ⟨a5.p, true⟩⟩).r, a5.k, a5.p + 1, a5.h, default⟩, ⟨(BB (by omega)).symm, rfl, λ _ => rfl, λ _ => rfl, λ _ => ⟨rfl, rfl, rfl, rfl⟩, rfl, rfl, rfl, rfl⟩, ⟨(hlr _ _ _).trans hl5, by show a5.p + 1 <= _; omega, hk5, ?_⟩, by show _ - (a5.p + 1) < _; omega⟩
    rw [DC a.d any _ _ (by omega)] at he5
    simp only [if_neg hF, if_pos hT] at he5
    exact he5
   ·have hF : ¬ (gD a.d.all a5.p).fr = (a4.p : Int) := by simpa using hF
    have hT : ¬ (gD a.d.all a5.p).to = (a4.p : Int) := by simpa using hT
    refine ⟨⟨a5.r, a5.k, a5.p + 1, a5.h, default⟩, ⟨(BB (by omega)).symm, rfl, λ _ => rfl, λ _ => rfl, λ _ => ⟨rfl, rfl, rfl, rfl⟩, rfl, rfl, rfl, rfl⟩, ⟨hl5, by show a5.p + 1 <= _; omega, hk5, ?_⟩, by show _ - (a5.p + 1) < _; omega⟩
    rw [DC a.d any _ _ (by omega)] at he5
    simp only [if_neg hF, if_neg hT] at he5
    exact he5
   ·refine ⟨⟨a5.r, a5.k, a4.p + 1, default, default⟩, ⟨(BB (by omega)).symm, rfl, λ _ => rfl, λ _ => rfl, λ _ => ⟨rfl, rfl, rfl, rfl⟩⟩, ⟨hl5, by show a4.p + 1 <= _; omega, hk5, ?_⟩, by show _ - (a4.p + 1) < _; omega⟩
    rw [OF a.d any _ _ (by omega)] at he5
    exact he5
  ·refine ⟨⟨a4.r, a4.k, 0, default, default⟩, ⟨rfl, λ _ => rfl, λ _ => rfl, λ _ => ⟨rfl, rfl, rfl, rfl⟩⟩, ⟨hl4, ?_⟩, by show a4.k < _; omega⟩
   rw [show a.d.out + 2 - a4.p = 0 by omega] at he4
   exact he4
 ·have e := NY hag hp1
  rw [e]
  exact ⟨λ _ => rfl, λ _ => rfl, λ _ => ⟨rfl, rfl, rfl, rfl⟩⟩
theorem Zu (a : DF) (hd : a.d.ok) (hfr : 0 <= a.fr /\ a.fr < a.d.out + 2) (hr : (EJ a.d any a.fr).isSome = true) : W57 a := by
 have hrf : EJ a.d any a.fr = some (HK a.d any a.fr) := by
  obtain ⟨r, h⟩ := Option.isSome_iff_exists.1 hr
  simp [HK, h]
 have ho := hd.out
 have hlen := hd.len
 rw [Zl]; delta zwc57_0 zwc57_1 zwc57_2 zwc57_3 zwc57_4 zwc57_5 zwc57_6 zwc57_7 zwc57_8 zwc57_9 zwc57_10 zwc57_11 zwc57_12 zwc57_13 zwc57_14 zwc57_15 zwc57_16 zwc57_17 zwc57_18 zwc57_19 zwc57_20 zwc57_21 zwc57_22 zwc57_23 zwc57_24 zwc57_25 zwc57_26 zwc57_27 zwc57_28 zwc57_29 zwc57_30 zwc57_31 zwc57_32 zwc57_33 zwc57_34 zwc57_35 zwc57_36 zwc57_37 zwc57_38 zwc57_39 zwc57_40 zwc57_41 zwc57_42 zwc57_43 zwc57_44 zwc57_45 zwc57_46 zwc57_47 zwc57_48 zwc57_49 zwc57_50 zwc57_51 zwc57_52 zwc57_53 zwc57_54 zwc57_55 zwc57_56 zwc57_57 zwc57_58 zwc57_59 zwc57_60 zwc57_61 zwc57_62 zwc57_63 zwc57_64 zwc57_65 zwc57_66 zwc57_67 zwc57_68 zwc57_69 zwc57_70 zwc57_71 zwc57_72 zwc57_73 zwc57_74 zwc57_75 zwc57_76 zwc57_77 zwc57_78 zwc57_79 zwc57_80 zwc57_81 zwc57_82 zwc57_83 zwc57_84 zwc57_85 zwc57_86 zwc57_87 zwc57_88
 simp only [CC, eq_self, implies_true, forall_const, LT, NV, NK, List.headD_cons, List.getD_cons_succ, List.getD_cons_zero, if_true, beq_iff_eq, YD]
 have hRx : RL.counts = any := rfl
 rw [hRx]
 generalize hrf' : HK a.d any a.fr = rf at *
 have hw2 : IntKind.i64.wrap ((a.d.out : Int) + 2) = ((a.d.out + 2 : Nat) : Int) := Hu (by omega)
 refine ⟨⟨⟨FG a.d a.fr, fuel, 0, default, default⟩, ⟨rfl, rfl, λ n => ?_, λ n => ?_, λ n => ?_⟩, by simp [FG], ?_⟩, λ a1 ⟨hl1, hp1⟩ => ⟨λ hag => ?_, λ hag => ?_⟩⟩
 ·show (Map.at (FG a.d a.fr).m n).isSome = _
  rw [JJ a.d hfr]; unfold EE; by_cases he : n = a.fr <;> simp [he]
 ·show (FG a.d a.fr).st n = _
  unfold FG stUp; by_cases he : n = a.fr <;> simp [he]
 ·refine Es (x := ⟨0, 0, ⟨0, false⟩⟩) (y := ⟨0, 0, ⟨0, false⟩⟩) ?_
  show Map.far (FG a.d a.fr).m n = _
  unfold Map.far; rw [JJ a.d hfr]; by_cases he : n = a.fr <;> simp [he]
 ·show CK a.d any fuel (FG a.d a.fr) = _
  rw [MB]; exact hrf
 ·obtain ⟨k', hk', hpe⟩ := SH hag hp1
  refine ⟨⟨⟨{ a1.r with ag := false }, k', 0, default, default⟩, ⟨by rw [hw2]; rfl, rfl, rfl, λ _ => rfl, λ _ => rfl, λ _ => ⟨rfl, rfl, rfl, rfl⟩⟩, hl1, by simp, hk'.symm, hpe⟩, λ a4 ⟨hl4, hp4, hk4, he4⟩ => ⟨λ hlt => ⟨rfl, λ hno => ?_, λ hyes => ⟨λ a8 ⟨hs8, hl8⟩ => ?_, ?_⟩⟩, λ hge => ?_⟩⟩
  ·refine ⟨⟨a4.r, a4.k, a4.p + 1, default, default⟩, ⟨(BB (by omega)).symm, rfl, λ _ => rfl, λ _ => rfl, λ _ => ⟨rfl, rfl, rfl, rfl⟩⟩, ⟨hl4, by show a4.p + 1 <= _; omega, hk4, ?_⟩, by show _ - (a4.p + 1) < _; omega⟩
   have hno : a4.r.m.at a4.p = none := by simpa using hno
   rw [show a.d.out + 2 - a4.p = a.d.out + 2 - (a4.p + 1) + 1 by omega, JS hno] at he4
   exact he4
  ·have ht := In hd hs8
   refine ⟨hs8, ⟨hs8, rfl⟩, λ hb => ?_, λ hb => ?_⟩
   ·have hb : JI a8.r.m (DB a.d a8.s) (wr (a8.h.cost + (AV (BW a.d.all a8.s.way) a8.s.back).1)) (wr (a8.h.many + 1)) = true := hb
    have e : (BE a.d RL a8).r = ⟨a8.r.m.set (DB a.d a8.s).toNat (some ⟨wr (a8.h.cost + (AV (BW a.d.all a8.s.way) a8.s.back).1), wr (a8.h.many + 1), a8.s⟩), true, Sym.stUp (λ z => (a8.r.m.at z).isSome) a8.r.st (DB a.d a8.s)⟩ := by
     show DN a.d any a8.h a8.r a8.s = _
     rw [MJ rfl, if_pos hb]
    rw [e]
    refine ⟨⟨hs8, rfl, SB _ _, (VY _ _ _).symm⟩, rfl, λ n => SJ ht.1 (by omega) n, λ n => rfl, λ n => ?_⟩
    have := Fb (m := a8.r.m) (x := ⟨wr (a8.h.cost + (AV (BW a.d.all a8.s.way) a8.s.back).1), wr (a8.h.many + 1), a8.s⟩) ht.1 (by omega) n
    simp only [this]
    by_cases he : n = DB a.d a8.s
    ·simp [he]
    ·simp [he]
   ·have hb : JI a8.r.m (DB a.d a8.s) (wr (a8.h.cost + (AV (BW a.d.all a8.s.way) a8.s.back).1)) (wr (a8.h.many + 1)) = false := hb
    have e : (BE a.d RL a8).r = a8.r := by
     show DN a.d any a8.h a8.r a8.s = _
     rw [MJ rfl, hb]; rfl
    rw [e]
    exact ⟨rfl, λ _ => rfl, λ _ => rfl, λ _ => ⟨rfl, rfl, rfl, rfl⟩⟩
  ·have hpl : a.d.out + 2 - (a.d.out + 2 - a4.p) = a4.p := by omega
   have hpl2 : a.d.out + 2 - a4.p - 1 = a.d.out + 2 - (a4.p + 1) := by omega
   simp only [hpl, hpl2]
   refine ⟨⟨⟨a4.r, a4.k, 0, a4.r.m.far a4.p, default⟩, ⟨rfl, rfl, λ _ => rfl, λ _ => rfl, λ _ => ⟨rfl, rfl, rfl, rfl⟩, trivial, rfl, rfl, rfl, rfl⟩, hl4, by simp, hk4, ?_⟩, λ a5 ⟨hl5, hp5, hk5, he5⟩ => ⟨λ h6 => ⟨⟨by omega, by omega⟩, by omega, λ hF => ?_, λ hF => ⟨λ hT => ?_, λ hT => ?_⟩⟩, λ h6 => ?_⟩⟩
   ·obtain ⟨f, hf⟩ := Option.isSome_iff_exists.1 hyes
    rw [show a.d.out + 2 - a4.p = a.d.out + 2 - (a4.p + 1) + 1 by omega, JR hf] at he4
    show CK a.d any a4.k (AU a.d any _ _ (CG a.d any (a4.r.m.far a4.p) a4.p (a.d.all.drop 0) 0 a4.r)) = _
    rw [YB hf, List.drop_zero]; exact he4
   ·have hp5' : 0 <= (a5.p : Int) /\ (a5.p : Int) < a.d.all.length := ⟨by omega, by omega⟩
    have hlr : ∀ h r s, (DN a.d any h r s).m.length = r.m.length := GU a.d any
    refine ⟨⟨a5.r, 0, 0, a5.h, ⟨a5.p, false⟩⟩, ⟨rfl, rfl, rfl, λ _ => rfl, λ _ => rfl, λ _ => ⟨rfl, rfl, rfl, rfl⟩, rfl, rfl, rfl, rfl, hp5', hl5⟩, λ hT => ?_, λ hT => ?_⟩
    ·refine ⟨⟨(BE a.d RL ⟨a5.r, 0, 0, a5.h, ⟨a5.p, false⟩⟩).r, 0, 0, a5.h, ⟨a5.p, true⟩⟩, ⟨rfl, rfl, rfl, λ _ => rfl, λ _ => rfl, λ _ => ⟨rfl, rfl, rfl, rfl⟩, rfl, rfl, rfl, rfl, hp5', (hlr _ _ _).trans hl5⟩, ?_⟩
     refine ⟨⟨(BE a.d RL ⟨(BE a.d RL ⟨a5.r, 0, 0, a5.h, ⟨a5.p, false⟩⟩).r, 0, 0, a5.h, ⟨a5.p, true⟩⟩).r, a5.k, a5.p + 1, a5.h, default⟩, ⟨(BB (by omega)).symm, rfl, λ _ => rfl, λ _ => rfl, λ _ => ⟨rfl, rfl, rfl, rfl⟩, rfl, rfl, rfl, rfl⟩, ⟨(hlr _ _ _).trans ((hlr _ _ _).trans hl5), by show a5.p + 1 <= _; omega, hk5, ?_⟩, by show _ - (a5.p + 1) < _; omega⟩
     rw [DC a.d any _ _ (by omega)] at he5
     simp only [if_pos hF, if_pos hT] at he5
     exact he5
    ·refine ⟨⟨(BE a.d RL ⟨a5.r, 0, 0, a5.h, ⟨a5.p, false⟩⟩).r, a5.k, a5.p + 1, a5.h, default⟩, ⟨(BB (by omega)).symm, rfl, λ _ => rfl, λ _ => rfl, λ _ => ⟨rfl, rfl, rfl, rfl⟩, rfl, rfl, rfl, rfl⟩, ⟨(hlr _ _ _).trans hl5, by show a5.p + 1 <= _; omega, hk5, ?_⟩, by show _ - (a5.p + 1) < _; omega⟩
     have hT : ¬ (gD a.d.all a5.p).to = (a4.p : Int) := by simpa using hT
     rw [DC a.d any _ _ (by omega)] at he5
     simp only [if_pos hF, if_neg hT] at he5
     exact he5
   ·have hp5' : 0 <= (a5.p : Int) /\ (a5.p : Int) < a.d.all.length := ⟨by omega, by omega⟩
    have hlr : ∀ h r s, (DN a.d any h r s).m.length = r.m.length := GU a.d any
    have hF : ¬ (gD a.d.all a5.p).fr = (a4.p : Int) := by simpa using hF
    refine ⟨⟨a5.r, 0, 0, a5.h, ⟨a5.p, true⟩⟩, ⟨rfl, rfl, rfl, λ _ => rfl, λ _ => rfl, λ _ => ⟨rfl, rfl, rfl, rfl⟩, rfl, rfl, rfl, rfl, hp5', hl5⟩, ?_⟩
    refine ⟨⟨(BE a.d RL ⟨a5.r, 0, 0, a5.h, ⟨a5.p, true⟩⟩).r, a5.k, a5.p + 1, a5.h, default⟩, ⟨(BB (by omega)).symm, rfl, λ _ => rfl, λ _ => rfl, λ _ => ⟨rfl, rfl, rfl, rfl⟩, rfl, rfl, rfl, rfl⟩, ⟨(hlr _ _ _).trans hl5, by show a5.p + 1 <= _; omega, hk5, ?_⟩, by show _ - (a5.p + 1) < _; omega⟩
    rw [DC a.d any _ _ (by omega)] at he5
    simp only [if_neg hF, if_pos hT] at he5
    exact he5
   ·have hF : ¬ (gD a.d.all a5.p).fr = (a4.p : Int) := by simpa using hF
    have hT : ¬ (gD a.d.all a5.p).to = (a4.p : Int) := by simpa using hT
    refine ⟨⟨a5.r, a5.k, a5.p + 1, a5.h, default⟩, ⟨(BB (by omega)).symm, rfl, λ _ => rfl, λ _ => rfl, λ _ => ⟨rfl, rfl, rfl, rfl⟩, rfl, rfl, rfl, rfl⟩, ⟨hl5, by show a5.p + 1 <= _; omega, hk5, ?_⟩, by show _ - (a5.p + 1) < _; omega⟩
    rw [DC a.d any _ _ (by omega)] at he5
    simp only [if_neg hF, if_neg hT] at he5
    exact he5
   ·refine ⟨⟨a5.r, a5.k, a4.p + 1, default, default⟩, ⟨(BB (by omega)).symm, rfl, λ _ => rfl, λ _ => rfl, λ _ => ⟨rfl, rfl, rfl, rfl⟩⟩, ⟨hl5, by show a4.p + 1 <= _; omega, hk5, ?_⟩, by show _ - (a4.p + 1) < _; omega⟩
    rw [OF a.d any _ _ (by omega)] at he5
    exact he5
  ·refine ⟨⟨a4.r, a4.k, 0, default, default⟩, ⟨rfl, λ _ => rfl, λ _ => rfl, λ _ => ⟨rfl, rfl, rfl, rfl⟩⟩, ⟨hl4, ?_⟩, by show a4.k < _; omega⟩
   rw [show a.d.out + 2 - a4.p = 0 by omega] at he4
   exact he4
 ·have e := NY hag hp1
  rw [e]
  exact ⟨λ _ => rfl, λ _ => rfl, λ _ => ⟨rfl, rfl, rfl, rfl⟩⟩
theorem pu57 (a : DF) (hd : a.d.ok) (hfr : 0 <= a.fr /\ a.fr < a.d.out + 2) (hr : (EJ a.d (BP a.d a.at') a.fr).isSome = true) : U57 a := by
 have hrf : EJ a.d (BP a.d a.at') a.fr = some (HK a.d (BP a.d a.at') a.fr) := by
  obtain ⟨r, h⟩ := Option.isSome_iff_exists.1 hr
  simp [HK, h]
 have ho := hd.out
 have hlen := hd.len
 rw [uc57]; delta zuc57_0 zuc57_1 zuc57_2 zuc57_3 zuc57_4 zuc57_5 zuc57_6 zuc57_7 zuc57_8 zuc57_9 zuc57_10 zuc57_11 zuc57_12 zuc57_13 zuc57_14 zuc57_15 zuc57_16 zuc57_17 zuc57_18 zuc57_19 zuc57_20 zuc57_21 zuc57_22 zuc57_23 zuc57_24 zuc57_25 zuc57_26 zuc57_27 zuc57_28 zuc57_29 zuc57_30 zuc57_31 zuc57_32 zuc57_33 zuc57_34 zuc57_35 zuc57_36 zuc57_37 zuc57_38 zuc57_39 zuc57_40 zuc57_41 zuc57_42 zuc57_43 zuc57_44 zuc57_45 zuc57_46 zuc57_47 zuc57_48 zuc57_49 zuc57_50 zuc57_51 zuc57_52 zuc57_53 zuc57_54 zuc57_55 zuc57_56 zuc57_57 zuc57_58 zuc57_59 zuc57_60 zuc57_61 zuc57_62 zuc57_63 zuc57_64 zuc57_65 zuc57_66 zuc57_67 zuc57_68 zuc57_69 zuc57_70 zuc57_71 zuc57_72 zuc57_73 zuc57_74 zuc57_75 zuc57_76 zuc57_77 zuc57_78 zuc57_79 zuc57_80 zuc57_81 zuc57_82 zuc57_83 zuc57_84 zuc57_85 zuc57_86 zuc57_87 zuc57_88 zuc57_89 zuc57_90 zuc57_91 zuc57_92 zuc57_93 zuc57_94 zuc57_95 zuc57_96 zuc57_97 zuc57_98 zuc57_99
 simp only [CC, eq_self, implies_true, forall_const, LT, NV, NK, List.headD_cons, List.getD_cons_succ, List.getD_cons_zero, if_true, beq_iff_eq, YD]
 have hRx : (RF a.d a.at').counts = (BP a.d a.at') := rfl
 rw [hRx]
 generalize hrf' : HK a.d (BP a.d a.at') a.fr = rf at *
 have hw2 : IntKind.i64.wrap ((a.d.out : Int) + 2) = ((a.d.out + 2 : Nat) : Int) := Hu (by omega)
 refine ⟨⟨⟨FG a.d a.fr, fuel, 0, default, default⟩, ⟨rfl, rfl, λ n => ?_, λ n => ?_, λ n => ?_⟩, by simp [FG], ?_⟩, λ a1 ⟨hl1, hp1⟩ => ⟨λ hag => ?_, λ hag => ?_⟩⟩
 ·show (Map.at (FG a.d a.fr).m n).isSome = _
  rw [JJ a.d hfr]; unfold EE; by_cases he : n = a.fr <;> simp [he]
 ·show (FG a.d a.fr).st n = _
  unfold FG stUp; by_cases he : n = a.fr <;> simp [he]
 ·refine Es (x := ⟨0, 0, ⟨0, false⟩⟩) (y := ⟨0, 0, ⟨0, false⟩⟩) ?_
  show Map.far (FG a.d a.fr).m n = _
  unfold Map.far; rw [JJ a.d hfr]; by_cases he : n = a.fr <;> simp [he]
 ·show CK a.d (BP a.d a.at') fuel (FG a.d a.fr) = _
  rw [MB]; exact hrf
 ·obtain ⟨k', hk', hpe⟩ := SH hag hp1
  refine ⟨⟨⟨{ a1.r with ag := false }, k', 0, default, default⟩, ⟨by rw [hw2]; rfl, rfl, rfl, λ _ => rfl, λ _ => rfl, λ _ => ⟨rfl, rfl, rfl, rfl⟩⟩, hl1, by simp, hk'.symm, hpe⟩, λ a4 ⟨hl4, hp4, hk4, he4⟩ => ⟨λ hlt => ⟨rfl, λ hno => ?_, λ hyes => ⟨λ a8 ⟨hs8, hl8⟩ => ?_, ?_⟩⟩, λ hge => ?_⟩⟩
  ·refine ⟨⟨a4.r, a4.k, a4.p + 1, default, default⟩, ⟨(BB (by omega)).symm, rfl, λ _ => rfl, λ _ => rfl, λ _ => ⟨rfl, rfl, rfl, rfl⟩⟩, ⟨hl4, by show a4.p + 1 <= _; omega, hk4, ?_⟩, by show _ - (a4.p + 1) < _; omega⟩
   have hno : a4.r.m.at a4.p = none := by simpa using hno
   rw [show a.d.out + 2 - a4.p = a.d.out + 2 - (a4.p + 1) + 1 by omega, JS hno] at he4
   exact he4
  ·have ht := In hd hs8
   refine ⟨hs8, λ hcs => ?_, λ hcs => ⟨hs8, ⟨hs8, rfl⟩, λ hb => ?_, λ hb => ?_⟩⟩
   ·have hcs : BP a.d a.at' a8.s = false := hcs
    have e : (BE a.d (RF a.d a.at') a8).r = a8.r := by
     show DN a.d (BP a.d a.at') a8.h a8.r a8.s = _
     unfold DN; rw [hcs]; rfl
    rw [e]
    exact ⟨rfl, λ _ => rfl, λ _ => rfl, λ _ => ⟨rfl, rfl, rfl, rfl⟩⟩
   ·have hb : JI a8.r.m (DB a.d a8.s) (wr (a8.h.cost + (AV (BW a.d.all a8.s.way) a8.s.back).1)) (wr (a8.h.many + 1)) = true := hb
    have e : (BE a.d (RF a.d a.at') a8).r = ⟨a8.r.m.set (DB a.d a8.s).toNat (some ⟨wr (a8.h.cost + (AV (BW a.d.all a8.s.way) a8.s.back).1), wr (a8.h.many + 1), a8.s⟩), true, Sym.stUp (λ z => (a8.r.m.at z).isSome) a8.r.st (DB a.d a8.s)⟩ := by
     show DN a.d (BP a.d a.at') a8.h a8.r a8.s = _
     rw [MJ hcs, if_pos hb]
    rw [e]
    refine ⟨⟨hs8, rfl, SB _ _, (VY _ _ _).symm⟩, rfl, λ n => SJ ht.1 (by omega) n, λ n => rfl, λ n => ?_⟩
    have := Fb (m := a8.r.m) (x := ⟨wr (a8.h.cost + (AV (BW a.d.all a8.s.way) a8.s.back).1), wr (a8.h.many + 1), a8.s⟩) ht.1 (by omega) n
    simp only [this]
    by_cases he : n = DB a.d a8.s
    ·simp [he]
    ·simp [he]
   ·have hb : JI a8.r.m (DB a.d a8.s) (wr (a8.h.cost + (AV (BW a.d.all a8.s.way) a8.s.back).1)) (wr (a8.h.many + 1)) = false := hb
    have e : (BE a.d (RF a.d a.at') a8).r = a8.r := by
     show DN a.d (BP a.d a.at') a8.h a8.r a8.s = _
     rw [MJ hcs, hb]; rfl
    rw [e]
    exact ⟨rfl, λ _ => rfl, λ _ => rfl, λ _ => ⟨rfl, rfl, rfl, rfl⟩⟩
  ·have hpl : a.d.out + 2 - (a.d.out + 2 - a4.p) = a4.p := by omega
   have hpl2 : a.d.out + 2 - a4.p - 1 = a.d.out + 2 - (a4.p + 1) := by omega
   simp only [hpl, hpl2]
   refine ⟨⟨⟨a4.r, a4.k, 0, a4.r.m.far a4.p, default⟩, ⟨rfl, rfl, λ _ => rfl, λ _ => rfl, λ _ => ⟨rfl, rfl, rfl, rfl⟩, trivial, rfl, rfl, rfl, rfl⟩, hl4, by simp, hk4, ?_⟩, λ a5 ⟨hl5, hp5, hk5, he5⟩ => ⟨λ h6 => ⟨⟨by omega, by omega⟩, by omega, λ hF => ?_, λ hF => ⟨λ hT => ?_, λ hT => ?_⟩⟩, λ h6 => ?_⟩⟩
   ·obtain ⟨f, hf⟩ := Option.isSome_iff_exists.1 hyes
    rw [show a.d.out + 2 - a4.p = a.d.out + 2 - (a4.p + 1) + 1 by omega, JR hf] at he4
    show CK a.d (BP a.d a.at') a4.k (AU a.d (BP a.d a.at') _ _ (CG a.d (BP a.d a.at') (a4.r.m.far a4.p) a4.p (a.d.all.drop 0) 0 a4.r)) = _
    rw [YB hf, List.drop_zero]; exact he4
   ·have hp5' : 0 <= (a5.p : Int) /\ (a5.p : Int) < a.d.all.length := ⟨by omega, by omega⟩
    have hlr : ∀ h r s, (DN a.d (BP a.d a.at') h r s).m.length = r.m.length := GU a.d (BP a.d a.at')
    refine ⟨⟨a5.r, 0, 0, a5.h, ⟨a5.p, false⟩⟩, ⟨rfl, rfl, rfl, λ _ => rfl, λ _ => rfl, λ _ => ⟨rfl, rfl, rfl, rfl⟩, rfl, rfl, rfl, rfl, hp5', hl5⟩, λ hT => ?_, λ hT => ?_⟩
    ·refine ⟨⟨(BE a.d (RF a.d a.at') ⟨a5.r, 0, 0, a5.h, ⟨a5.p, false⟩⟩).r, 0, 0, a5.h, ⟨a5.p, true⟩⟩, ⟨rfl, rfl, rfl, λ _ => rfl, λ _ => rfl, λ _ => ⟨rfl, rfl, rfl, rfl⟩, rfl, rfl, rfl, rfl, hp5', (hlr _ _ _).trans hl5⟩, ?_⟩
     refine ⟨⟨(BE a.d (RF a.d a.at') ⟨(BE a.d (RF a.d a.at') ⟨a5.r, 0, 0, a5.h, ⟨a5.p, false⟩⟩).r, 0, 0, a5.h, ⟨a5.p, true⟩⟩).r, a5.k, a5.p + 1, a5.h, default⟩, ⟨(BB (by omega)).symm, rfl, λ _ => rfl, λ _ => rfl, λ _ => ⟨rfl, rfl, rfl, rfl⟩, rfl, rfl, rfl, rfl⟩, ⟨(hlr _ _ _).trans ((hlr _ _ _).trans hl5), by show a5.p + 1 <= _; omega, hk5, ?_⟩, by show _ - (a5.p + 1) < _; omega⟩
     rw [DC a.d (BP a.d a.at') _ _ (by omega)] at he5
     simp only [if_pos hF, if_pos hT] at he5
     exact he5
    ·refine ⟨⟨(BE a.d (RF a.d a.at') ⟨a5.r, 0, 0, a5.h, ⟨a5.p, false⟩⟩).r, a5.k, a5.p + 1, a5.h, default⟩, ⟨(BB (by omega)).symm, rfl, λ _ => rfl, λ _ => rfl, λ _ => ⟨rfl, rfl, rfl, rfl⟩, rfl, rfl, rfl, rfl⟩, ⟨(hlr _ _ _).trans hl5, by show a5.p + 1 <= _; omega, hk5, ?_⟩, by show _ - (a5.p + 1) < _; omega⟩
     have hT : ¬ (gD a.d.all a5.p).to = (a4.p : Int) := by simpa using hT
     rw [DC a.d (BP a.d a.at') _ _ (by omega)] at he5
     simp only [if_pos hF, if_neg hT] at he5
     exact he5
   ·have hp5' : 0 <= (a5.p : Int) /\ (a5.p : Int) < a.d.all.length := ⟨by omega, by omega⟩
    have hlr : ∀ h r s, (DN a.d (BP a.d a.at') h r s).m.length = r.m.length := GU a.d (BP a.d a.at')
    have hF : ¬ (gD a.d.all a5.p).fr = (a4.p : Int) := by simpa using hF
    refine ⟨⟨a5.r, 0, 0, a5.h, ⟨a5.p, true⟩⟩, ⟨rfl, rfl, rfl, λ _ => rfl, λ _ => rfl, λ _ => ⟨rfl, rfl, rfl, rfl⟩, rfl, rfl, rfl, rfl, hp5', hl5⟩, ?_⟩
    refine ⟨⟨(BE a.d (RF a.d a.at') ⟨a5.r, 0, 0, a5.h, ⟨a5.p, true⟩⟩).r, a5.k, a5.p + 1, a5.h, default⟩, ⟨(BB (by omega)).symm, rfl, λ _ => rfl, λ _ => rfl, λ _ => ⟨rfl, rfl, rfl, rfl⟩, rfl, rfl, rfl, rfl⟩, ⟨(hlr _ _ _).trans hl5, by show a5.p + 1 <= _; omega, hk5, ?_⟩, by show _ - (a5.p + 1) < _; omega⟩
    rw [DC a.d (BP a.d a.at') _ _ (by omega)] at he5
    simp only [if_neg hF, if_pos hT] at he5
    exact he5
   ·have hF : ¬ (gD a.d.all a5.p).fr = (a4.p : Int) := by simpa using hF
    have hT : ¬ (gD a.d.all a5.p).to = (a4.p : Int) := by simpa using hT
    refine ⟨⟨a5.r, a5.k, a5.p + 1, a5.h, default⟩, ⟨(BB (by omega)).symm, rfl, λ _ => rfl, λ _ => rfl, λ _ => ⟨rfl, rfl, rfl, rfl⟩, rfl, rfl, rfl, rfl⟩, ⟨hl5, by show a5.p + 1 <= _; omega, hk5, ?_⟩, by show _ - (a5.p + 1) < _; omega⟩
    rw [DC a.d (BP a.d a.at') _ _ (by omega)] at he5
    simp only [if_neg hF, if_neg hT] at he5
    exact he5
   ·refine ⟨⟨a5.r, a5.k, a4.p + 1, default, default⟩, ⟨(BB (by omega)).symm, rfl, λ _ => rfl, λ _ => rfl, λ _ => ⟨rfl, rfl, rfl, rfl⟩⟩, ⟨hl5, by show a4.p + 1 <= _; omega, hk5, ?_⟩, by show _ - (a4.p + 1) < _; omega⟩
    rw [OF a.d (BP a.d a.at') _ _ (by omega)] at he5
    exact he5
  ·refine ⟨⟨a4.r, a4.k, 0, default, default⟩, ⟨rfl, λ _ => rfl, λ _ => rfl, λ _ => ⟨rfl, rfl, rfl, rfl⟩⟩, ⟨hl4, ?_⟩, by show a4.k < _; omega⟩
   rw [show a.d.out + 2 - a4.p = 0 by omega] at he4
   exact he4
 ·have e := NY hag hp1
  rw [e]
  exact ⟨λ _ => rfl, λ _ => rfl, λ _ => ⟨rfl, rfl, rfl, rfl⟩⟩
def Sc : List AVal -> Heap -> Option (DF × List (Nat × Nat) × List Nat)
 | [.bptr id _, .d (.v (.int _ fr)), .agg [_]], H => match IG H id with
  | some (d, r) => some (⟨d, fr, 0⟩, [(100, id), (101, r)], [])
  | none => none
 | _, _ => none
def So : List AVal -> Heap -> Option (DF × List (Nat × Nat) × List Nat)
 | [.bptr id _, .d (.v (.int _ fr)), .agg [.fn _ _ [.bptr p _, .bptr q _]]], H => match IG H id, H q with
  | some (d, r), .live (.box [.d (.v (.int _ m))]) => some (⟨d, fr, m⟩, [(100, id), (101, r), (102, p), (103, q)], [])
  | _, _ => none
 | _, _ => none
def Yk : Sym.Spec := (Fe λ _ => RA).spec Sc
def Xa : Sym.Spec := (Fe λ _ => RL).spec Sc
def Wm : Sym.Spec := (Fe λ a => RF a.d a.at').spec So
theorem Jm {d : Desk} {R : Rule} {rf : RT} {g : FuncId} {s : Sym.Spec} : VM Try.prog (Tk Try.f106 d R rf g s) := by
 intro gs k x h
 have h : (if k = 106 then some (Ro Try.f106 d R rf) else none) = some x := h
 split at h
 ·rename_i he
  cases h; subst he
  have hb : Try.f106.body = some (AJ Try.f106) := by kernel_rfl
  exact ⟨AH, Cw Try.func106 (by kernel_rfl) hb, Try.func106, hb⟩
 ·cases h
theorem Vu : AL Try.prog 57 Yk := JC (Fe λ _ => RA) (λ a => Tk Try.f106 a.d RA (HK a.d any a.fr) 93 s93) [(0, 305)] [] Try.func57 (λ _ => by kernel_rfl) (λ _ => AB Lc (AB Te (AB Nu (AB ok93 AH)))) (λ a h => p57 a h.1 h.2.1 h.2.2) (λ _ => Jm) _
theorem Wg : AL Try.prog 57 Xa := JC (Fe λ _ => RL) (λ a => Tk Try.f106 a.d RL (HK a.d any a.fr) 58 s58) [(0, 305)] [] Try.func57 (λ _ => by kernel_rfl) (λ _ => AB Lc (AB Te (AB Nu (AB Zy AH)))) (λ a h => Zu a h.1 h.2.1 h.2.2) (λ _ => Jm) _
theorem Uz : AL Try.prog 57 Wm := JC (Fe λ a => RF a.d a.at') (λ a => Tk Try.f106 a.d (RF a.d a.at') (HK a.d (BP a.d a.at') a.fr) 101 (C101.spec Ty)) [(0, 305)] [] Try.func57 (λ _ => by kernel_rfl) (λ _ => AB Lc (AB Te (AB Nu (AB Vp AH)))) (λ a h => pu57 a h.1 h.2.1 h.2.2) (λ _ => Jm) _
end Go.Bal
