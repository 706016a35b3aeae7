/- Package balance: reach, with the rules that take every step. -/
import Derived.Test.YtonddbmhljelgaaBalD
set_option linter.unusedVariables false
set_option linter.unusedSimpArgs false
namespace Go.Bal
open Go Go.Sym Go.Proofs
theorem AMK {m : Map} {t : Int} {x : Far} (h0 : 0 <= t) (h : t.toNat < m.length) (z : Int) : Map.far (m.set t.toNat (some x)) z = if z = t then x else m.far z := by
 unfold Map.far; rw [T6 h0 h]; split <;> rfl
theorem S8 (d : Desk) (s : Step) : KF ⟨d.all, d.out, d.nR⟩ ⟨s.way, s.back⟩ = KF d s := rfl
theorem uL (h : Int -> Bool) (n : Int) : PR h n n = true := by simp [PR]
theorem C9 (h : Int -> Bool) (st : Int -> Int) (n : Int) : stUp h st n n = st n := by unfold stUp; cases h n <;> simp
theorem Xy (d : Desk) (c : Step -> Bool) (fr : Int) : HN d c fuel (TA d fr) = NP d c fr := by
 unfold HN NP
 have : (TA d fr).ag = true := rfl
 rw [if_pos this]
theorem ALJ {x y : Far} {b : Bool} {f : Far} (h : f = bif b then x else y) : f.cost = (bif b then x.cost else y.cost) /\ f.many = (bif b then x.many else y.many) /\ f.by'.way = (bif b then x.by'.way else y.by'.way) /\ f.by'.back = (bif b then x.by'.back else y.by'.back) := by
 subst h; cases b <;> exact ⟨rfl, rfl, rfl, rfl⟩
theorem bJ {d : Desk} {c : Step -> Bool} {k : Nat} {r rf : RT} (hr : r.ag = false) (h : HN d c k r = some rf) : rf = r := by
 unfold HN at h; rw [hr, if_neg (by decide)] at h; exact (Option.some.inj h).symm
theorem vR {m : Map} {t : Int} {x : Far} (h0 : 0 <= t) (h : t.toNat < m.length) (n : Int) : (Map.at (m.set t.toNat (some x)) n).isSome = PR (λ z => (m.at z).isSome) t n := by
 rw [T6 h0 h]; unfold PR
 by_cases he : n = t <;> simp [he]
theorem p57 (a : DF) (hd : a.d.ok) (hfr : 0 <= a.fr /\ a.fr < a.d.out + 2) (hr : (NP a.d any a.fr).isSome = true) : V57 a := by
 have hrf : NP a.d any a.fr = some (Aj a.d any a.fr) := by
  obtain ⟨r, h⟩ := Option.isSome_iff_exists.1 hr
  simp [Aj, h]
 have ho := hd.out
 have hlen := hd.len
 rw [vc57]; (conv => zeta)
 simp only [CC, eq_self, implies_true, forall_const, Yb, bH, eC, List.headD_cons, List.getD_cons_succ, List.getD_cons_zero, if_true, beq_iff_eq, S8]
 have hRx : RA.counts = any := rfl
 rw [hRx]
 generalize hrf' : Aj a.d any a.fr = rf at *
 have hw2 : IntKind.i64.wrap ((a.d.out : Int) + 2) = ((a.d.out + 2 : Nat) : Int) := ATS (by omega)
 refine ⟨⟨⟨TA a.d a.fr, fuel, 0, default, default⟩, ⟨rfl, rfl, λ n => ?_, λ n => ?_, λ n => ?_⟩, by simp [TA], ?_⟩, λ a1 ⟨hl1, hp1⟩ => ⟨λ hag => ?_, λ hag => ?_⟩⟩
 ·show (Map.at (TA a.d a.fr).m n).isSome = _
  rw [Lr a.d hfr]; unfold PR; by_cases he : n = a.fr <;> simp [he]
 ·show (TA a.d a.fr).st n = _
  unfold TA stUp; by_cases he : n = a.fr <;> simp [he]
 ·refine ALJ (x := ⟨0, 0, ⟨0, false⟩⟩) (y := ⟨0, 0, ⟨0, false⟩⟩) ?_
  show Map.far (TA a.d a.fr).m n = _
  unfold Map.far; rw [Lr a.d hfr]; by_cases he : n = a.fr <;> simp [he]
 ·show HN a.d any fuel (TA a.d a.fr) = _
  rw [Xy]; exact hrf
 ·obtain ⟨k', hk', hpe⟩ := vF hag hp1
  refine ⟨⟨⟨{ a1.r with ag := false }, k', 0, default, default⟩, ⟨by rw [hw2]; rfl, rfl, rfl, λ _ => rfl, λ _ => rfl, λ _ => ⟨rfl, rfl, rfl, rfl⟩⟩, hl1, by simp, hk'.symm, hpe⟩, λ a4 ⟨hl4, hp4, hk4, he4⟩ => ⟨λ hlt => ⟨rfl, λ hno => ?_, λ hyes => ⟨λ a8 ⟨hs8, hl8⟩ => ?_, ?_⟩⟩, λ hge => ?_⟩⟩
  ·refine ⟨⟨a4.r, a4.k, a4.p + 1, default, default⟩, ⟨(AL (by omega)).symm, rfl, λ _ => rfl, λ _ => rfl, λ _ => ⟨rfl, rfl, rfl, rfl⟩⟩, ⟨hl4, by show a4.p + 1 <= _; omega, hk4, ?_⟩, by show _ - (a4.p + 1) < _; omega⟩
   have hno : a4.r.m.at a4.p = none := by simpa using hno
   rw [show a.d.out + 2 - a4.p = a.d.out + 2 - (a4.p + 1) + 1 by omega, Nc hno] at he4
   exact he4
  ·have ht := AXE hd hs8
   refine ⟨hs8, ⟨hs8, rfl⟩, λ hb => ?_, λ hb => ?_⟩
   ·have hb : Lg a8.r.m (KF a.d a8.s) (wr (a8.h.cost + (BO (EW a.d.all a8.s.way) a8.s.back).1)) (wr (a8.h.many + 1)) = true := hb
    have e : (DA a.d RA a8).r = ⟨a8.r.m.set (KF a.d a8.s).toNat (some ⟨wr (a8.h.cost + (BO (EW a.d.all a8.s.way) a8.s.back).1), wr (a8.h.many + 1), a8.s⟩), true, Sym.stUp (λ z => (a8.r.m.at z).isSome) a8.r.st (KF a.d a8.s)⟩ := by
     show LS a.d any a8.h a8.r a8.s = _
     rw [Ym rfl, if_pos hb]
    rw [e]
    refine ⟨⟨hs8, rfl, uL _ _, (C9 _ _ _).symm⟩, rfl, λ n => vR ht.1 (by omega) n, λ n => rfl, λ n => ?_⟩
    have := AMK (m := a8.r.m) (x := ⟨wr (a8.h.cost + (BO (EW a.d.all a8.s.way) a8.s.back).1), wr (a8.h.many + 1), a8.s⟩) ht.1 (by omega) n
    simp only [this]
    by_cases he : n = KF a.d a8.s
    ·simp [he]
    ·simp [he]
   ·have hb : Lg a8.r.m (KF a.d a8.s) (wr (a8.h.cost + (BO (EW a.d.all a8.s.way) a8.s.back).1)) (wr (a8.h.many + 1)) = false := hb
    have e : (DA a.d RA a8).r = a8.r := by
     show LS a.d any a8.h a8.r a8.s = _
     rw [Ym rfl, hb]; rfl
    rw [e]
    exact ⟨rfl, λ _ => rfl, λ _ => rfl, λ _ => ⟨rfl, rfl, rfl, rfl⟩⟩
  ·have hpl : a.d.out + 2 - (a.d.out + 2 - a4.p) = a4.p := by omega
   have hpl2 : a.d.out + 2 - a4.p - 1 = a.d.out + 2 - (a4.p + 1) := by omega
   simp only [hpl, hpl2]
   refine ⟨⟨⟨a4.r, a4.k, 0, a4.r.m.far a4.p, default⟩, ⟨rfl, rfl, λ _ => rfl, λ _ => rfl, λ _ => ⟨rfl, rfl, rfl, rfl⟩, trivial, rfl, rfl, rfl, rfl⟩, hl4, by simp, hk4, ?_⟩, λ a5 ⟨hl5, hp5, hk5, he5⟩ => ⟨λ h6 => ⟨⟨by omega, by omega⟩, by omega, λ hF => ?_, λ hF => ⟨λ hT => ?_, λ hT => ?_⟩⟩, λ h6 => ?_⟩⟩
   ·obtain ⟨f, hf⟩ := Option.isSome_iff_exists.1 hyes
    rw [show a.d.out + 2 - a4.p = a.d.out + 2 - (a4.p + 1) + 1 by omega, Na hf] at he4
    show HN a.d any a4.k (BK a.d any _ _ (HK a.d any (a4.r.m.far a4.p) a4.p (a.d.all.drop 0) 0 a4.r)) = _
    rw [S3 hf, List.drop_zero]; exact he4
   ·have hp5' : 0 <= (a5.p : Int) /\ (a5.p : Int) < a.d.all.length := ⟨by omega, by omega⟩
    have hlr : ∀ h r s, (LS a.d any h r s).m.length = r.m.length := XV a.d any
    refine ⟨⟨a5.r, 0, 0, a5.h, ⟨a5.p, false⟩⟩, ⟨rfl, rfl, rfl, λ _ => rfl, λ _ => rfl, λ _ => ⟨rfl, rfl, rfl, rfl⟩, rfl, rfl, rfl, rfl, hp5', hl5⟩, λ hT => ?_, λ hT => ?_⟩
    ·refine ⟨⟨(DA a.d RA ⟨a5.r, 0, 0, a5.h, ⟨a5.p, false⟩⟩).r, 0, 0, a5.h, ⟨a5.p, true⟩⟩, ⟨rfl, rfl, rfl, λ _ => rfl, λ _ => rfl, λ _ => ⟨rfl, rfl, rfl, rfl⟩, rfl, rfl, rfl, rfl, hp5', (hlr _ _ _).trans hl5⟩, ?_⟩
     refine ⟨⟨(DA a.d RA ⟨(DA a.d RA ⟨a5.r, 0, 0, a5.h, ⟨a5.p, false⟩⟩).r, 0, 0, a5.h, ⟨a5.p, true⟩⟩).r, a5.k, a5.p + 1, a5.h, default⟩, ⟨(AL (by omega)).symm, rfl, λ _ => rfl, λ _ => rfl, λ _ => ⟨rfl, rfl, rfl, rfl⟩, rfl, rfl, rfl, rfl⟩, ⟨(hlr _ _ _).trans ((hlr _ _ _).trans hl5), by show a5.p + 1 <= _; omega, hk5, ?_⟩, by show _ - (a5.p + 1) < _; omega⟩
     rw [JT a.d any _ _ (by omega)] at he5
     simp only [if_pos hF, if_pos hT] at he5
     exact he5
    ·refine ⟨⟨(DA a.d RA ⟨a5.r, 0, 0, a5.h, ⟨a5.p, false⟩⟩).r, a5.k, a5.p + 1, a5.h, default⟩, ⟨(AL (by omega)).symm, rfl, λ _ => rfl, λ _ => rfl, λ _ => ⟨rfl, rfl, rfl, rfl⟩, rfl, rfl, rfl, rfl⟩, ⟨(hlr _ _ _).trans hl5, by show a5.p + 1 <= _; omega, hk5, ?_⟩, by show _ - (a5.p + 1) < _; omega⟩
     have hT : ¬ (gD a.d.all a5.p).to = (a4.p : Int) := by simpa using hT
     rw [JT a.d any _ _ (by omega)] at he5
     simp only [if_pos hF, if_neg hT] at he5
     exact he5
   ·have hp5' : 0 <= (a5.p : Int) /\ (a5.p : Int) < a.d.all.length := ⟨by omega, by omega⟩
    have hlr : ∀ h r s, (LS a.d any h r s).m.length = r.m.length := XV a.d any
    have hF : ¬ (gD a.d.all a5.p).fr = (a4.p : Int) := by simpa using hF
    refine ⟨⟨a5.r, 0, 0, a5.h, ⟨a5.p, true⟩⟩, ⟨rfl, rfl, rfl, λ _ => rfl, λ _ => rfl, λ _ => ⟨rfl, rfl, rfl, rfl⟩, rfl, rfl, rfl, rfl, hp5', hl5⟩, ?_⟩
    refine ⟨⟨(DA a.d RA ⟨a5.r, 0, 0, a5.h, ⟨a5.p, true⟩⟩).r, a5.k, a5.p + 1, a5.h, default⟩, ⟨(AL (by omega)).symm, rfl, λ _ => rfl, λ _ => rfl, λ _ => ⟨rfl, rfl, rfl, rfl⟩, rfl, rfl, rfl, rfl⟩, ⟨(hlr _ _ _).trans hl5, by show a5.p + 1 <= _; omega, hk5, ?_⟩, by show _ - (a5.p + 1) < _; omega⟩
    rw [JT a.d any _ _ (by omega)] at he5
    simp only [if_neg hF, if_pos hT] at he5
    exact he5
   ·have hF : ¬ (gD a.d.all a5.p).fr = (a4.p : Int) := by simpa using hF
    have hT : ¬ (gD a.d.all a5.p).to = (a4.p : Int) := by simpa using hT
    refine ⟨⟨a5.r, a5.k, a5.p + 1, a5.h, default⟩, ⟨(AL (by omega)).symm, rfl, λ _ => rfl, λ _ => rfl, λ _ => ⟨rfl, rfl, rfl, rfl⟩, rfl, rfl, rfl, rfl⟩, ⟨hl5, by show a5.p + 1 <= _; omega, hk5, ?_⟩, by show _ - (a5.p + 1) < _; omega⟩
    rw [JT a.d any _ _ (by omega)] at he5
    simp only [if_neg hF, if_neg hT] at he5
    exact he5
   ·refine ⟨⟨a5.r, a5.k, a4.p + 1, default, default⟩, ⟨(AL (by omega)).symm, rfl, λ _ => rfl, λ _ => rfl, λ _ => ⟨rfl, rfl, rfl, rfl⟩⟩, ⟨hl5, by show a4.p + 1 <= _; omega, hk5, ?_⟩, by show _ - (a4.p + 1) < _; omega⟩
    rw [fZ a.d any _ _ (by omega)] at he5
    exact he5
  ·refine ⟨⟨a4.r, a4.k, 0, default, default⟩, ⟨rfl, λ _ => rfl, λ _ => rfl, λ _ => ⟨rfl, rfl, rfl, rfl⟩⟩, ⟨hl4, ?_⟩, by show a4.k < _; omega⟩
   rw [show a.d.out + 2 - a4.p = 0 by omega] at he4
   exact he4
 ·have e := bJ hag hp1
  rw [e]
  exact ⟨λ _ => rfl, λ _ => rfl, λ _ => ⟨rfl, rfl, rfl, rfl⟩⟩
theorem pw57 (a : DF) (hd : a.d.ok) (hfr : 0 <= a.fr /\ a.fr < a.d.out + 2) (hr : (NP a.d any a.fr).isSome = true) : W57 a := by
 have hrf : NP a.d any a.fr = some (Aj a.d any a.fr) := by
  obtain ⟨r, h⟩ := Option.isSome_iff_exists.1 hr
  simp [Aj, h]
 have ho := hd.out
 have hlen := hd.len
 rw [wc57]; delta JE HC MA LX Am AKY APE T9 wI zO B6 aA AHN oA oK nA ACR Y5 wM zN wC yZ AEL lP xW yN AGE nX nE Ev kY ADJ AGQ ADV AAN ADG ACE jP Dx kD Z8 ACJ xR WV B7 zR zM ABH ADL zS A5 Ep C1 V1 wG ADP wZ AFU iT Z6 yX zB AAA La W9 xH AAZ ABF AGO V8 yW zP ACN AGB ABB U8 AFK Y9 AHR AAF Z9 ACL AEX ACS AFI ACG A4 xQ ACT
 simp only [CC, eq_self, implies_true, forall_const, Yb, bH, eC, List.headD_cons, List.getD_cons_succ, List.getD_cons_zero, if_true, beq_iff_eq, S8]
 have hRx : RL.counts = any := rfl
 rw [hRx]
 generalize hrf' : Aj a.d any a.fr = rf at *
 have hw2 : IntKind.i64.wrap ((a.d.out : Int) + 2) = ((a.d.out + 2 : Nat) : Int) := ATS (by omega)
 refine ⟨⟨⟨TA a.d a.fr, fuel, 0, default, default⟩, ⟨rfl, rfl, λ n => ?_, λ n => ?_, λ n => ?_⟩, by simp [TA], ?_⟩, λ a1 ⟨hl1, hp1⟩ => ⟨λ hag => ?_, λ hag => ?_⟩⟩
 ·show (Map.at (TA a.d a.fr).m n).isSome = _
  rw [Lr a.d hfr]; unfold PR; by_cases he : n = a.fr <;> simp [he]
 ·show (TA a.d a.fr).st n = _
  unfold TA stUp; by_cases he : n = a.fr <;> simp [he]
 ·refine ALJ (x := ⟨0, 0, ⟨0, false⟩⟩) (y := ⟨0, 0, ⟨0, false⟩⟩) ?_
  show Map.far (TA a.d a.fr).m n = _
  unfold Map.far; rw [Lr a.d hfr]; by_cases he : n = a.fr <;> simp [he]
 ·show HN a.d any fuel (TA a.d a.fr) = _
  rw [Xy]; exact hrf
 ·obtain ⟨k', hk', hpe⟩ := vF hag hp1
  refine ⟨⟨⟨{ a1.r with ag := false }, k', 0, default, default⟩, ⟨by rw [hw2]; rfl, rfl, rfl, λ _ => rfl, λ _ => rfl, λ _ => ⟨rfl, rfl, rfl, rfl⟩⟩, hl1, by simp, hk'.symm, hpe⟩, λ a4 ⟨hl4, hp4, hk4, he4⟩ => ⟨λ hlt => ⟨rfl, λ hno => ?_, λ hyes => ⟨λ a8 ⟨hs8, hl8⟩ => ?_, ?_⟩⟩, λ hge => ?_⟩⟩
  ·refine ⟨⟨a4.r, a4.k, a4.p + 1, default, default⟩, ⟨(AL (by omega)).symm, rfl, λ _ => rfl, λ _ => rfl, λ _ => ⟨rfl, rfl, rfl, rfl⟩⟩, ⟨hl4, by show a4.p + 1 <= _; omega, hk4, ?_⟩, by show _ - (a4.p + 1) < _; omega⟩
   have hno : a4.r.m.at a4.p = none := by simpa using hno
   rw [show a.d.out + 2 - a4.p = a.d.out + 2 - (a4.p + 1) + 1 by omega, Nc hno] at he4
   exact he4
  ·have ht := AXE hd hs8
   refine ⟨hs8, ⟨hs8, rfl⟩, λ hb => ?_, λ hb => ?_⟩
   ·have hb : Lg a8.r.m (KF a.d a8.s) (wr (a8.h.cost + (BO (EW a.d.all a8.s.way) a8.s.back).1)) (wr (a8.h.many + 1)) = true := hb
    have e : (DA a.d RL a8).r = ⟨a8.r.m.set (KF a.d a8.s).toNat (some ⟨wr (a8.h.cost + (BO (EW a.d.all a8.s.way) a8.s.back).1), wr (a8.h.many + 1), a8.s⟩), true, Sym.stUp (λ z => (a8.r.m.at z).isSome) a8.r.st (KF a.d a8.s)⟩ := by
     show LS a.d any a8.h a8.r a8.s = _
     rw [Ym rfl, if_pos hb]
    rw [e]
    refine ⟨⟨hs8, rfl, uL _ _, (C9 _ _ _).symm⟩, rfl, λ n => vR ht.1 (by omega) n, λ n => rfl, λ n => ?_⟩
    have := AMK (m := a8.r.m) (x := ⟨wr (a8.h.cost + (BO (EW a.d.all a8.s.way) a8.s.back).1), wr (a8.h.many + 1), a8.s⟩) ht.1 (by omega) n
    simp only [this]
    by_cases he : n = KF a.d a8.s
    ·simp [he]
    ·simp [he]
   ·have hb : Lg a8.r.m (KF a.d a8.s) (wr (a8.h.cost + (BO (EW a.d.all a8.s.way) a8.s.back).1)) (wr (a8.h.many + 1)) = false := hb
    have e : (DA a.d RL a8).r = a8.r := by
     show LS a.d any a8.h a8.r a8.s = _
     rw [Ym rfl, hb]; rfl
    rw [e]
    exact ⟨rfl, λ _ => rfl, λ _ => rfl, λ _ => ⟨rfl, rfl, rfl, rfl⟩⟩
  ·have hpl : a.d.out + 2 - (a.d.out + 2 - a4.p) = a4.p := by omega
   have hpl2 : a.d.out + 2 - a4.p - 1 = a.d.out + 2 - (a4.p + 1) := by omega
   simp only [hpl, hpl2]
   refine ⟨⟨⟨a4.r, a4.k, 0, a4.r.m.far a4.p, default⟩, ⟨rfl, rfl, λ _ => rfl, λ _ => rfl, λ _ => ⟨rfl, rfl, rfl, rfl⟩, trivial, rfl, rfl, rfl, rfl⟩, hl4, by simp, hk4, ?_⟩, λ a5 ⟨hl5, hp5, hk5, he5⟩ => ⟨λ h6 => ⟨⟨by omega, by omega⟩, by omega, λ hF => ?_, λ hF => ⟨λ hT => ?_, λ hT => ?_⟩⟩, λ h6 => ?_⟩⟩
   ·obtain ⟨f, hf⟩ := Option.isSome_iff_exists.1 hyes
    rw [show a.d.out + 2 - a4.p = a.d.out + 2 - (a4.p + 1) + 1 by omega, Na hf] at he4
    show HN a.d any a4.k (BK a.d any _ _ (HK a.d any (a4.r.m.far a4.p) a4.p (a.d.all.drop 0) 0 a4.r)) = _
    rw [S3 hf, List.drop_zero]; exact he4
   ·have hp5' : 0 <= (a5.p : Int) /\ (a5.p : Int) < a.d.all.length := ⟨by omega, by omega⟩
    have hlr : ∀ h r s, (LS a.d any h r s).m.length = r.m.length := XV a.d any
    refine ⟨⟨a5.r, 0, 0, a5.h, ⟨a5.p, false⟩⟩, ⟨rfl, rfl, rfl, λ _ => rfl, λ _ => rfl, λ _ => ⟨rfl, rfl, rfl, rfl⟩, rfl, rfl, rfl, rfl, hp5', hl5⟩, λ hT => ?_, λ hT => ?_⟩
    ·refine ⟨⟨(DA a.d RL ⟨a5.r, 0, 0, a5.h, ⟨a5.p, false⟩⟩).r, 0, 0, a5.h, ⟨a5.p, true⟩⟩, ⟨rfl, rfl, rfl, λ _ => rfl, λ _ => rfl, λ _ => ⟨rfl, rfl, rfl, rfl⟩, rfl, rfl, rfl, rfl, hp5', (hlr _ _ _).trans hl5⟩, ?_⟩
     refine ⟨⟨(DA a.d RL ⟨(DA a.d RL ⟨a5.r, 0, 0, a5.h, ⟨a5.p, false⟩⟩).r, 0, 0, a5.h, ⟨a5.p, true⟩⟩).r, a5.k, a5.p + 1, a5.h, default⟩, ⟨(AL (by omega)).symm, rfl, λ _ => rfl, λ _ => rfl, λ _ => ⟨rfl, rfl, rfl, rfl⟩, rfl, rfl, rfl, rfl⟩, ⟨(hlr _ _ _).trans ((hlr _ _ _).trans hl5), by show a5.p + 1 <= _; omega, hk5, ?_⟩, by show _ - (a5.p + 1) < _; omega⟩
     rw [JT a.d any _ _ (by omega)] at he5
     simp only [if_pos hF, if_pos hT] at he5
     exact he5
    ·refine ⟨⟨(DA a.d RL ⟨a5.r, 0, 0, a5.h, ⟨a5.p, false⟩⟩).r, a5.k, a5.p + 1, a5.h, default⟩, ⟨(AL (by omega)).symm, rfl, λ _ => rfl, λ _ => rfl, λ _ => ⟨rfl, rfl, rfl, rfl⟩, rfl, rfl, rfl, rfl⟩, ⟨(hlr _ _ _).trans hl5, by show a5.p + 1 <= _; omega, hk5, ?_⟩, by show _ - (a5.p + 1) < _; omega⟩
     have hT : ¬ (gD a.d.all a5.p).to = (a4.p : Int) := by simpa using hT
     rw [JT a.d any _ _ (by omega)] at he5
     simp only [if_pos hF, if_neg hT] at he5
     exact he5
   ·have hp5' : 0 <= (a5.p : Int) /\ (a5.p : Int) < a.d.all.length := ⟨by omega, by omega⟩
    have hlr : ∀ h r s, (LS a.d any h r s).m.length = r.m.length := XV a.d any
    have hF : ¬ (gD a.d.all a5.p).fr = (a4.p : Int) := by simpa using hF
    refine ⟨⟨a5.r, 0, 0, a5.h, ⟨a5.p, true⟩⟩, ⟨rfl, rfl, rfl, λ _ => rfl, λ _ => rfl, λ _ => ⟨rfl, rfl, rfl, rfl⟩, rfl, rfl, rfl, rfl, hp5', hl5⟩, ?_⟩
    refine ⟨⟨(DA a.d RL ⟨a5.r, 0, 0, a5.h, ⟨a5.p, true⟩⟩).r, a5.k, a5.p + 1, a5.h, default⟩, ⟨(AL (by omega)).symm, rfl, λ _ => rfl, λ _ => rfl, λ _ => ⟨rfl, rfl, rfl, rfl⟩, rfl, rfl, rfl, rfl⟩, ⟨(hlr _ _ _).trans hl5, by show a5.p + 1 <= _; omega, hk5, ?_⟩, by show _ - (a5.p + 1) < _; omega⟩
    rw [JT a.d any _ _ (by omega)] at he5
    simp only [if_neg hF, if_pos hT] at he5
    exact he5
   ·have hF : ¬ (gD a.d.all a5.p).fr = (a4.p : Int) := by simpa using hF
    have hT : ¬ (gD a.d.all a5.p).to = (a4.p : Int) := by simpa using hT
    refine ⟨⟨a5.r, a5.k, a5.p + 1, a5.h, default⟩, ⟨(AL (by omega)).symm, rfl, λ _ => rfl, λ _ => rfl, λ _ => ⟨rfl, rfl, rfl, rfl⟩, rfl, rfl, rfl, rfl⟩, ⟨hl5, by show a5.p + 1 <= _; omega, hk5, ?_⟩, by show _ - (a5.p + 1) < _; omega⟩
    rw [JT a.d any _ _ (by omega)] at he5
    simp only [if_neg hF, if_neg hT] at he5
    exact he5
   ·refine ⟨⟨a5.r, a5.k, a4.p + 1, default, default⟩, ⟨(AL (by omega)).symm, rfl, λ _ => rfl, λ _ => rfl, λ _ => ⟨rfl, rfl, rfl, rfl⟩⟩, ⟨hl5, by show a4.p + 1 <= _; omega, hk5, ?_⟩, by show _ - (a4.p + 1) < _; omega⟩
    rw [fZ a.d any _ _ (by omega)] at he5
    exact he5
  ·refine ⟨⟨a4.r, a4.k, 0, default, default⟩, ⟨rfl, λ _ => rfl, λ _ => rfl, λ _ => ⟨rfl, rfl, rfl, rfl⟩⟩, ⟨hl4, ?_⟩, by show a4.k < _; omega⟩
   rw [show a.d.out + 2 - a4.p = 0 by omega] at he4
   exact he4
 ·have e := bJ hag hp1
  rw [e]
  exact ⟨λ _ => rfl, λ _ => rfl, λ _ => ⟨rfl, rfl, rfl, rfl⟩⟩
theorem pu57 (a : DF) (hd : a.d.ok) (hfr : 0 <= a.fr /\ a.fr < a.d.out + 2) (hr : (NP a.d (EM a.d a.at') a.fr).isSome = true) : U57 a := by
 have hrf : NP a.d (EM a.d a.at') a.fr = some (Aj a.d (EM a.d a.at') a.fr) := by
  obtain ⟨r, h⟩ := Option.isSome_iff_exists.1 hr
  simp [Aj, h]
 have ho := hd.out
 have hlen := hd.len
 rw [uc57]; delta HO HB KE KC Ai AKQ AMR U0 yD yJ kM wV yM Zy AAO kP mQ jR V4 ABO wW xY wJ wP AED kI xC zI ACX iY jA WJ mH AHP Z4 AET ACK V5 AGC Yq WE Yo AEW AAY oF ADK wA C0 ACY zL wY yK wK xE AGF xO zX AGA ABT WT wL xJ xZ ADR ACD Dw AFQ oE AEZ xK wX AEJ Lx ADQ xL ADW ABU X7 AFY yR xN ABN AAQ Y6 AHO AAP ACH AHF AES V6 ACI AEQ ABG AHG AHA vY AEO X3 wN AFX
 simp only [CC, eq_self, implies_true, forall_const, Yb, bH, eC, List.headD_cons, List.getD_cons_succ, List.getD_cons_zero, if_true, beq_iff_eq, S8]
 have hRx : (RF a.d a.at').counts = (EM a.d a.at') := rfl
 rw [hRx]
 generalize hrf' : Aj a.d (EM a.d a.at') a.fr = rf at *
 have hw2 : IntKind.i64.wrap ((a.d.out : Int) + 2) = ((a.d.out + 2 : Nat) : Int) := ATS (by omega)
 refine ⟨⟨⟨TA a.d a.fr, fuel, 0, default, default⟩, ⟨rfl, rfl, λ n => ?_, λ n => ?_, λ n => ?_⟩, by simp [TA], ?_⟩, λ a1 ⟨hl1, hp1⟩ => ⟨λ hag => ?_, λ hag => ?_⟩⟩
 ·show (Map.at (TA a.d a.fr).m n).isSome = _
  rw [Lr a.d hfr]; unfold PR; by_cases he : n = a.fr <;> simp [he]
 ·show (TA a.d a.fr).st n = _
  unfold TA stUp; by_cases he : n = a.fr <;> simp [he]
 ·refine ALJ (x := ⟨0, 0, ⟨0, false⟩⟩) (y := ⟨0, 0, ⟨0, false⟩⟩) ?_
  show Map.far (TA a.d a.fr).m n = _
  unfold Map.far; rw [Lr a.d hfr]; by_cases he : n = a.fr <;> simp [he]
 ·show HN a.d (EM a.d a.at') fuel (TA a.d a.fr) = _
  rw [Xy]; exact hrf
 ·obtain ⟨k', hk', hpe⟩ := vF hag hp1
  refine ⟨⟨⟨{ a1.r with ag := false }, k', 0, default, default⟩, ⟨by rw [hw2]; rfl, rfl, rfl, λ _ => rfl, λ _ => rfl, λ _ => ⟨rfl, rfl, rfl, rfl⟩⟩, hl1, by simp, hk'.symm, hpe⟩, λ a4 ⟨hl4, hp4, hk4, he4⟩ => ⟨λ hlt => ⟨rfl, λ hno => ?_, λ hyes => ⟨λ a8 ⟨hs8, hl8⟩ => ?_, ?_⟩⟩, λ hge => ?_⟩⟩
  ·refine ⟨⟨a4.r, a4.k, a4.p + 1, default, default⟩, ⟨(AL (by omega)).symm, rfl, λ _ => rfl, λ _ => rfl, λ _ => ⟨rfl, rfl, rfl, rfl⟩⟩, ⟨hl4, by show a4.p + 1 <= _; omega, hk4, ?_⟩, by show _ - (a4.p + 1) < _; omega⟩
   have hno : a4.r.m.at a4.p = none := by simpa using hno
   rw [show a.d.out + 2 - a4.p = a.d.out + 2 - (a4.p + 1) + 1 by omega, Nc hno] at he4
   exact he4
  ·have ht := AXE hd hs8
   refine ⟨hs8, λ hcs => ?_, λ hcs => ⟨hs8, ⟨hs8, rfl⟩, λ hb => ?_, λ hb => ?_⟩⟩
   ·have hcs : EM a.d a.at' a8.s = false := hcs
    have e : (DA a.d (RF a.d a.at') a8).r = a8.r := by
     show LS a.d (EM a.d a.at') a8.h a8.r a8.s = _
     unfold LS; rw [hcs]; rfl
    rw [e]
    exact ⟨rfl, λ _ => rfl, λ _ => rfl, λ _ => ⟨rfl, rfl, rfl, rfl⟩⟩
   ·have hb : Lg a8.r.m (KF a.d a8.s) (wr (a8.h.cost + (BO (EW a.d.all a8.s.way) a8.s.back).1)) (wr (a8.h.many + 1)) = true := hb
    have e : (DA a.d (RF a.d a.at') a8).r = ⟨a8.r.m.set (KF a.d a8.s).toNat (some ⟨wr (a8.h.cost + (BO (EW a.d.all a8.s.way) a8.s.back).1), wr (a8.h.many + 1), a8.s⟩), true, Sym.stUp (λ z => (a8.r.m.at z).isSome) a8.r.st (KF a.d a8.s)⟩ := by
     show LS a.d (EM a.d a.at') a8.h a8.r a8.s = _
     rw [Ym hcs, if_pos hb]
    rw [e]
    refine ⟨⟨hs8, rfl, uL _ _, (C9 _ _ _).symm⟩, rfl, λ n => vR ht.1 (by omega) n, λ n => rfl, λ n => ?_⟩
    have := AMK (m := a8.r.m) (x := ⟨wr (a8.h.cost + (BO (EW a.d.all a8.s.way) a8.s.back).1), wr (a8.h.many + 1), a8.s⟩) ht.1 (by omega) n
    simp only [this]
    by_cases he : n = KF a.d a8.s
    ·simp [he]
    ·simp [he]
   ·have hb : Lg a8.r.m (KF a.d a8.s) (wr (a8.h.cost + (BO (EW a.d.all a8.s.way) a8.s.back).1)) (wr (a8.h.many + 1)) = false := hb
    have e : (DA a.d (RF a.d a.at') a8).r = a8.r := by
     show LS a.d (EM a.d a.at') a8.h a8.r a8.s = _
     rw [Ym hcs, hb]; rfl
    rw [e]
    exact ⟨rfl, λ _ => rfl, λ _ => rfl, λ _ => ⟨rfl, rfl, rfl, rfl⟩⟩
  ·have hpl : a.d.out + 2 - (a.d.out + 2 - a4.p) = a4.p := by omega
   have hpl2 : a.d.out + 2 - a4.p - 1 = a.d.out + 2 - (a4.p + 1) := by omega
   simp only [hpl, hpl2]
   refine ⟨⟨⟨a4.r, a4.k, 0, a4.r.m.far a4.p, default⟩, ⟨rfl, rfl, λ _ => rfl, λ _ => rfl, λ _ => ⟨rfl, rfl, rfl, rfl⟩, trivial, rfl, rfl, rfl, rfl⟩, hl4, by simp, hk4, ?_⟩, λ a5 ⟨hl5, hp5, hk5, he5⟩ => ⟨λ h6 => ⟨⟨by omega, by omega⟩, by omega, λ hF => ?_, λ hF => ⟨λ hT => ?_, λ hT => ?_⟩⟩, λ h6 => ?_⟩⟩
   ·obtain ⟨f, hf⟩ := Option.isSome_iff_exists.1 hyes
    rw [show a.d.out + 2 - a4.p = a.d.out + 2 - (a4.p + 1) + 1 by omega, Na hf] at he4
    show HN a.d (EM a.d a.at') a4.k (BK a.d (EM a.d a.at') _ _ (HK a.d (EM a.d a.at') (a4.r.m.far a4.p) a4.p (a.d.all.drop 0) 0 a4.r)) = _
    rw [S3 hf, List.drop_zero]; exact he4
   ·have hp5' : 0 <= (a5.p : Int) /\ (a5.p : Int) < a.d.all.length := ⟨by omega, by omega⟩
    have hlr : ∀ h r s, (LS a.d (EM a.d a.at') h r s).m.length = r.m.length := XV a.d (EM a.d a.at')
    refine ⟨⟨a5.r, 0, 0, a5.h, ⟨a5.p, false⟩⟩, ⟨rfl, rfl, rfl, λ _ => rfl, λ _ => rfl, λ _ => ⟨rfl, rfl, rfl, rfl⟩, rfl, rfl, rfl, rfl, hp5', hl5⟩, λ hT => ?_, λ hT => ?_⟩
    ·refine ⟨⟨(DA a.d (RF a.d a.at') ⟨a5.r, 0, 0, a5.h, ⟨a5.p, false⟩⟩).r, 0, 0, a5.h, ⟨a5.p, true⟩⟩, ⟨rfl, rfl, rfl, λ _ => rfl, λ _ => rfl, λ _ => ⟨rfl, rfl, rfl, rfl⟩, rfl, rfl, rfl, rfl, hp5', (hlr _ _ _).trans hl5⟩, ?_⟩
     refine ⟨⟨(DA a.d (RF a.d a.at') ⟨(DA a.d (RF a.d a.at') ⟨a5.r, 0, 0, a5.h, ⟨a5.p, false⟩⟩).r, 0, 0, a5.h, ⟨a5.p, true⟩⟩).r, a5.k, a5.p + 1, a5.h, default⟩, ⟨(AL (by omega)).symm, rfl, λ _ => rfl, λ _ => rfl, λ _ => ⟨rfl, rfl, rfl, rfl⟩, rfl, rfl, rfl, rfl⟩, ⟨(hlr _ _ _).trans ((hlr _ _ _).trans hl5), by show a5.p + 1 <= _; omega, hk5, ?_⟩, by show _ - (a5.p + 1) < _; omega⟩
     rw [JT a.d (EM a.d a.at') _ _ (by omega)] at he5
     simp only [if_pos hF, if_pos hT] at he5
     exact he5
    ·refine ⟨⟨(DA a.d (RF a.d a.at') ⟨a5.r, 0, 0, a5.h, ⟨a5.p, false⟩⟩).r, a5.k, a5.p + 1, a5.h, default⟩, ⟨(AL (by omega)).symm, rfl, λ _ => rfl, λ _ => rfl, λ _ => ⟨rfl, rfl, rfl, rfl⟩, rfl, rfl, rfl, rfl⟩, ⟨(hlr _ _ _).trans hl5, by show a5.p + 1 <= _; omega, hk5, ?_⟩, by show _ - (a5.p + 1) < _; omega⟩
     have hT : ¬ (gD a.d.all a5.p).to = (a4.p : Int) := by simpa using hT
     rw [JT a.d (EM a.d a.at') _ _ (by omega)] at he5
     simp only [if_pos hF, if_neg hT] at he5
     exact he5
   ·have hp5' : 0 <= (a5.p : Int) /\ (a5.p : Int) < a.d.all.length := ⟨by omega, by omega⟩
    have hlr : ∀ h r s, (LS a.d (EM a.d a.at') h r s).m.length = r.m.length := XV a.d (EM a.d a.at')
    have hF : ¬ (gD a.d.all a5.p).fr = (a4.p : Int) := by simpa using hF
    refine ⟨⟨a5.r, 0, 0, a5.h, ⟨a5.p, true⟩⟩, ⟨rfl, rfl, rfl, λ _ => rfl, λ _ => rfl, λ _ => ⟨rfl, rfl, rfl, rfl⟩, rfl, rfl, rfl, rfl, hp5', hl5⟩, ?_⟩
    refine ⟨⟨(DA a.d (RF a.d a.at') ⟨a5.r, 0, 0, a5.h, ⟨a5.p, true⟩⟩).r, a5.k, a5.p + 1, a5.h, default⟩, ⟨(AL (by omega)).symm, rfl, λ _ => rfl, λ _ => rfl, λ _ => ⟨rfl, rfl, rfl, rfl⟩, rfl, rfl, rfl, rfl⟩, ⟨(hlr _ _ _).trans hl5, by show a5.p + 1 <= _; omega, hk5, ?_⟩, by show _ - (a5.p + 1) < _; omega⟩
    rw [JT a.d (EM a.d a.at') _ _ (by omega)] at he5
    simp only [if_neg hF, if_pos hT] at he5
    exact he5
   ·have hF : ¬ (gD a.d.all a5.p).fr = (a4.p : Int) := by simpa using hF
    have hT : ¬ (gD a.d.all a5.p).to = (a4.p : Int) := by simpa using hT
    refine ⟨⟨a5.r, a5.k, a5.p + 1, a5.h, default⟩, ⟨(AL (by omega)).symm, rfl, λ _ => rfl, λ _ => rfl, λ _ => ⟨rfl, rfl, rfl, rfl⟩, rfl, rfl, rfl, rfl⟩, ⟨hl5, by show a5.p + 1 <= _; omega, hk5, ?_⟩, by show _ - (a5.p + 1) < _; omega⟩
    rw [JT a.d (EM a.d a.at') _ _ (by omega)] at he5
    simp only [if_neg hF, if_neg hT] at he5
    exact he5
   ·refine ⟨⟨a5.r, a5.k, a4.p + 1, default, default⟩, ⟨(AL (by omega)).symm, rfl, λ _ => rfl, λ _ => rfl, λ _ => ⟨rfl, rfl, rfl, rfl⟩⟩, ⟨hl5, by show a4.p + 1 <= _; omega, hk5, ?_⟩, by show _ - (a4.p + 1) < _; omega⟩
    rw [fZ a.d (EM a.d a.at') _ _ (by omega)] at he5
    exact he5
  ·refine ⟨⟨a4.r, a4.k, 0, default, default⟩, ⟨rfl, λ _ => rfl, λ _ => rfl, λ _ => ⟨rfl, rfl, rfl, rfl⟩⟩, ⟨hl4, ?_⟩, by show a4.k < _; omega⟩
   rw [show a.d.out + 2 - a4.p = 0 by omega] at he4
   exact he4
 ·have e := bJ hag hp1
  rw [e]
  exact ⟨λ _ => rfl, λ _ => rfl, λ _ => ⟨rfl, rfl, rfl, rfl⟩⟩
def BME : List AVal -> Heap -> Option (DF × List (Nat × Nat) × List Nat)
 | [.bptr id _, .d (.v (.int _ fr)), .agg [_]], H => match Do H id with
  | some (d, r) => some (⟨d, fr, 0⟩, [(100, id), (101, r)], [])
  | none => none
 | _, _ => none
def BOI : List AVal -> Heap -> Option (DF × List (Nat × Nat) × List Nat)
 | [.bptr id _, .d (.v (.int _ fr)), .agg [.fn _ _ [.bptr p _, .bptr q _]]], H => match Do H id, H q with
  | some (d, r), .live (.box [.d (.v (.int _ m))]) => some (⟨d, fr, m⟩, [(100, id), (101, r), (102, p), (103, q)], [])
  | _, _ => none
 | _, _ => none
def s57a : Sym.Spec := (C57 λ _ => RA).spec BME
def s57l : Sym.Spec := (C57 λ _ => RL).spec BME
def s57f : Sym.Spec := (C57 λ a => RF a.d a.at').spec BOI
theorem ATT {d : Desk} {R : Rule} {rf : RT} {g : FuncId} {s : Sym.Spec} : bK Try.prog (A57 Try.f106 d R rf g s) := by
 intro gs k x h
 have h : (if k = 106 then some (BMI Try.f106 d R rf) else none) = some x := h
 split at h
 ·rename_i he
  cases h; subst he
  have hb : Try.f106.body = some (AF Try.f106) := by kernel_rfl
  exact ⟨AE, K3 Try.func106 (by kernel_rfl) hb, Try.func106, hb⟩
 ·cases h
theorem BPY : AH Try.prog 57 s57a := UY (C57 λ _ => RA) (λ a => A57 Try.f106 a.d RA (Aj a.d any a.fr) 93 s93) [(0, 305)] [] Try.func57 (λ _ => by kernel_rfl) (λ _ => AA ok85 (AA ok86 (AA ok87 (AA ok93 AE)))) (λ a h => p57 a h.1 h.2.1 h.2.2) (λ _ => ATT) _
theorem BMQ : AH Try.prog 57 s57l := UY (C57 λ _ => RL) (λ a => A57 Try.f106 a.d RL (Aj a.d any a.fr) 58 s58) [(0, 305)] [] Try.func57 (λ _ => by kernel_rfl) (λ _ => AA ok85 (AA ok86 (AA ok87 (AA ok58 AE)))) (λ a h => pw57 a h.1 h.2.1 h.2.2) (λ _ => ATT) _
theorem BQT : AH Try.prog 57 s57f := UY (C57 λ a => RF a.d a.at') (λ a => A57 Try.f106 a.d (RF a.d a.at') (Aj a.d (EM a.d a.at') a.fr) 101 (C101.spec d101)) [(0, 305)] [] Try.func57 (λ _ => by kernel_rfl) (λ _ => AA ok85 (AA ok86 (AA ok87 (AA BPI AE)))) (λ a h => pu57 a h.1 h.2.1 h.2.2) (λ _ => ATT) _
end Go.Bal
