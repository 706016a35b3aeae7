/- BalanceMore: its walk is right. -/
import Derived.Test.YtonddbmhljelgaaBalMo
set_option linter.unusedVariables false
set_option linter.unusedSimpArgs false
namespace Go.Bal
open Go Go.Sym Go.Proofs
theorem Kp {a : BBB} (h : MoOk a) : (bif decide (((AG a).g.length : Int) > 1) then decide (((AG a).r.length : Int) < 14) else false) = XM a := by
 have := h.r11
 have e : decide (((AG a).r.length : Int) < 14) = true := decide_eq_true (by omega)
 rw [e]
 unfold XM
 by_cases hb : 1 < (AG a).g.length
 ·rw [decide_eq_true hb, decide_eq_true (show ((AG a).g.length : Int) > 1 by omega)]; rfl
 ·rw [decide_eq_false hb, decide_eq_false (show ¬ ((AG a).g.length : Int) > 1 by omega)]; rfl
theorem Ee {l m : List Reach} {r : Reach} (h : m = l ++ [r]) {n : Nat} (hn : l.length = n) : ∀ j, j < m.length -> (gD m j).fr = (bif decide (j < n) then (gD l j).fr else r.fr) /\ (gD m j).to = (bif decide (j < n) then (gD l j).to else r.to) /\ (gD m j).sp.lo = (bif decide (j < n) then (gD l j).sp.lo else r.sp.lo) /\ (gD m j).sp.hi = bif decide (j < n) then (gD l j).sp.hi else r.sp.hi := λ j hj => by
 subst h
 rw [CA, <- hn]
 by_cases hx : j < l.length
 ·rw [if_pos hx, decide_eq_true hx]; exact ⟨rfl, rfl, rfl, rfl⟩
 ·have : j = l.length := by simp at hj; omega
  subst this
  rw [if_neg hx, decide_eq_false hx, Nat.sub_self]; exact ⟨rfl, rfl, rfl, rfl⟩
set_option maxHeartbeats 2000000 in
theorem p5 (a : BBB) (h1 : RI a.a) (h2 : RI a.b) (h3 : RI a.c) (hr : (AG a).r.length ≠ 0) : V5 a := by
 have ok := Rz h1 h2 h3
 have sy := Pu ok
 have lm := ok.lm
 have r11 := ok.r11
 have g1 := ok.n.g1
 have g8 := ok.n.g8
 have hM : (BG a).g = (AG a).g := rfl
 have hMl : (BG a).g.length = (AG a).g.length := rfl
 have hc := Kp ok
 have su : ∀ k, k <= 1000 -> 0 <= (FV (AZ a) k).used := λ k hk => (JX (RG h3) (by omega) k hk).used.1
 have su1 : ∀ k, k <= 1000 -> ∀ n, 0 <= (AM (FV (AZ a) k) n).used := λ k hk n => ((JX (RG h3) (by omega) k hk).next (by omega) n).used.1
 have su2 : ∀ k, k <= 1000 -> ∀ n m, 0 <= (AM (AM (FV (AZ a) k) n) m).used := λ k hk n m => (((JX (RG h3) (by omega) k hk).next (by omega) n).next (by omega) m).used.1
 have w0 := Xl (AZ a) (AG a).r
 have w0' := Xl (AZ a) (BG a).r
 have wl := JE (AZ a) (AG a).r
 have wl' := JE (AZ a) (BG a).r
 rw [vc5]; (conv => zeta); simp only [CC, eq_self, implies_true, forall_const, DL.m2, DL.d7, mo1, mo2, mo3, mo4, mo5, Yb, Ts, Hg, Jl, Ik, Is, cond_false, hc, List.cons_append, List.nil_append, List.append_nil, List.getD_cons_zero, List.getD_cons_succ]
 refine ⟨⟨rfl, (RG h1).mono (by omega), by omega, by omega⟩, ⟨(RG h2).mono (by omega), by omega, by omega⟩, ⟨by omega, ⟨by omega, by omega⟩, by omega, ⟨by omega, by omega⟩, by omega, ⟨by omega, by omega⟩, by omega, by omega, by omega⟩, ⟨0, ⟨rfl, rfl, λ _ _ => ⟨rfl, rfl⟩, lm.symm, rfl, λ _ _ => ⟨rfl, rfl⟩, lm.symm, by rw [w0], by rw [w0]; exact λ _ _ => ⟨rfl, rfl, rfl, rfl⟩, by rw [w0'], by rw [w0']; exact λ _ _ => ⟨rfl, rfl, rfl, rfl⟩, rfl, λ _ _ => rfl, rfl, rfl⟩, Nat.zero_le _⟩, λ i hi => ⟨λ hlt => ⟨⟨rfl, su i (by omega), rfl, su1 i (by omega) 9⟩, ⟨i, ⟨rfl, rfl, rfl, rfl, λ _ _ => ⟨rfl, rfl, rfl, rfl⟩, rfl, λ _ _ => ⟨rfl, rfl, rfl, rfl⟩, rfl, λ _ _ => rfl, rfl, rfl⟩, by omega, rfl⟩, λ k ⟨k1, k2⟩ => ?q0, λ k ⟨k1, k2⟩ => ?q1, λ k ⟨k1, k2⟩ => ?q2⟩, λ hge => ?out⟩⟩
 case q0 =>
  have hk : k < (AG a).r.length := k1
  refine ⟨⟨by decide, by decide⟩, ⟨⟨by omega, by omega⟩, by rw [wl]; omega, ⟨by omega, by omega⟩, by rw [wl]; omega, ⟨by omega, by omega⟩, by rw [wl]; omega⟩, k, ⟨rfl, rfl, rfl, rfl, by rw [wl, wl], λ j hj => Fy hk hj, rfl, λ _ _ => ⟨rfl, rfl, rfl, rfl⟩, rfl, λ _ _ => rfl, rfl, rfl⟩, ⟨k1, k2⟩, by decide⟩
 case q1 =>
  have hk : k < (BG a).r.length := by omega
  refine ⟨⟨by decide, by decide⟩, ⟨⟨by omega, by omega⟩, by rw [wl']; omega, ⟨by omega, by omega⟩, by rw [wl']; omega, ⟨by omega, by omega⟩, by rw [wl']; omega⟩, k, ⟨rfl, rfl, rfl, rfl, rfl, λ _ _ => ⟨rfl, rfl, rfl, rfl⟩, by rw [wl', wl'], λ j hj => Fy hk hj, rfl, λ _ _ => rfl, rfl, rfl⟩, ⟨k1, k2⟩, by decide⟩
 case q2 =>
  exact ⟨k + 1, ⟨(BB (by omega)).symm, rfl, λ _ _ => ⟨rfl, rfl, rfl, rfl⟩, rfl, λ _ _ => ⟨rfl, rfl, rfl, rfl⟩, rfl, λ _ _ => rfl, rfl, rfl⟩, by omega, by omega⟩
 case out =>
  have hx : i = (AG a).r.length := by omega
  subst hx
  refine ⟨⟨λ hb => ?jt, λ hb => ?jf⟩, ?c19, ?tail⟩
  case jt =>
   have e1 := (ok.nj hb).rs
   have e2 := (ok.mx hb).rs
   have r1 := Ee e1 rfl
   have r2 := Ee e2 lm
   exact ⟨⟨su _ (by omega), rfl, su1 _ (by omega) _, rfl, su2 _ (by omega) _ _⟩, λ h0 => absurd h0 (by omega), ⟨⟨by decide, λ h => absurd h (by decide), by omega, by omega⟩, lm.symm, by decide, λ h => absurd h (by decide), by omega, by omega⟩, ⟨0⟩, wl _, by rw [wl]; omega, λ _ _ => ⟨rfl, rfl, rfl, rfl⟩, (ok.nj hb).len, by omega, r1, by rw [(ok.mx hb).len, lm], by omega, r2, by show (EB (AZ a) (BG a).r _).length = _; rw [wl', lm], by rw [wl', lm]; omega, λ _ _ => ⟨rfl, rfl, rfl, rfl⟩⟩
  case jf =>
   have e1 : (BF a).r = (AG a).r := by show (if XM a then _ else _) = _; rw [hb]; rfl
   have e2 : (DK a).r = (BG a).r := by show (if XM a then _ else _) = _; rw [hb]; rfl
   rw [e1, e2]
   exact ⟨⟨0⟩, wl _, by rw [wl]; omega, λ _ _ => ⟨rfl, rfl, rfl, rfl⟩, rfl, by omega, λ _ _ => ⟨rfl, rfl, rfl, rfl⟩, lm, by omega, λ _ _ => ⟨rfl, rfl, rfl, rfl⟩, by show (EB (AZ a) (BG a).r _).length = _; rw [wl', lm], by rw [wl', lm]; omega, λ _ _ => ⟨rfl, rfl, rfl, rfl⟩⟩
  case c19 => exact ⟨⟨0⟩, rfl, λ _ _ => ⟨rfl, rfl⟩, rfl, λ _ _ => ⟨rfl, rfl⟩, rfl, λ _ _ => ⟨rfl, rfl⟩, rfl, λ _ _ => ⟨rfl, rfl⟩⟩
  case tail =>
   have sz : ((AG a).r.length : Int) < 100 := by omega
   rw [sy.n, sy.w, sy.j, sy.ln, sy.lw, sy.gn, sy.gw, sy.gj]
   refine ⟨λ hb => ?_, λ _ => ⟨⟨0, rfl, Nat.zero_le _⟩, λ k hk => ⟨λ hlt => ?_, λ hge => ⟨⟨0, rfl, Nat.zero_le _⟩, λ j hj => ⟨λ hlt => ?_, λ hge => ?_⟩⟩⟩⟩⟩
   ·have := sy.lj
    rw [decide_eq_false (show ¬ ((AO (BF a)).length : Int) < (AG a).r.length by omega)] at hb
    simp at hb
   ·obtain ⟨⟨f1, f2⟩, f3, f4⟩ := sy.f k (by omega)
    have := sy.lj
    rw [decide_eq_false (show ¬ (gD (AO (BT a)) k).lo > (gD (AO (AG a)) k).lo by omega), decide_eq_false (show ¬ (gD (AO (BT a)) k).hi < (gD (AO (AG a)) k).hi by omega), decide_eq_false (show ¬ (gD (AO (BF a)) k).lo > (gD (AO (AG a)) k).lo by omega), decide_eq_false (show ¬ (gD (AO (BF a)) k).hi < (gD (AO (AG a)) k).hi by omega)]
    refine ⟨⟨⟨by omega, by omega⟩, ⟨by omega, by omega⟩, λ _ => ⟨by omega, by omega⟩, λ _ => ⟨by omega, by omega⟩, λ _ => ⟨by omega, by omega⟩, λ _ => ⟨by omega, by omega⟩, λ _ => ⟨by omega, by omega⟩, λ _ => ⟨by omega, by omega⟩⟩, λ hb => ?_, λ _ => ⟨k + 1, (BB (by omega)).symm, by omega, by omega⟩⟩
    simp at hb
   ·obtain ⟨⟨f1, f2⟩, f3, f4⟩ := sy.g j (by omega)
    rw [decide_eq_false (show ¬ (gD (AN (BT a)) j).lo > (gD (AN (AG a)) j).lo by omega), decide_eq_false (show ¬ (gD (AN (BT a)) j).hi < (gD (AN (AG a)) j).hi by omega), decide_eq_false (show ¬ (gD (AN (BF a)) j).lo > (gD (AN (AG a)) j).lo by omega), decide_eq_false (show ¬ (gD (AN (BF a)) j).hi < (gD (AN (AG a)) j).hi by omega)]
    refine ⟨⟨⟨by omega, by omega⟩, ⟨by omega, by omega⟩, λ _ => ⟨by omega, by omega⟩, λ _ => ⟨by omega, by omega⟩, λ _ => ⟨by omega, by omega⟩, λ _ => ⟨by omega, by omega⟩, λ _ => ⟨by omega, by omega⟩, λ _ => ⟨by omega, by omega⟩⟩, λ hb => ?_, λ _ => ⟨j + 1, (BB (by omega)).symm, by omega, by omega⟩⟩
    simp at hb
   ·have t1 : decide (FL (EC a) > FL (BG a)) = false := decide_eq_false (by have := sy.ke; omega)
    have t2 : decide (FL (DK a) > FL (BG a)) = false := decide_eq_false (by have := sy.kx; omega)
    rw [sy.cm, sy.ce, sy.cx, t1, t2]
    refine ⟨λ hb => by simp at hb, λ _ => ⟨⟨0, ⟨rfl, rfl, rfl, rfl, rfl, λ _ _ => ⟨rfl, rfl⟩⟩, Nat.zero_le _⟩, λ q hq => ⟨λ hlt => ⟨⟨by omega, by omega⟩, q + 1, ⟨by rw [QW, QW]; rfl, (BB (by omega)).symm⟩, by omega, by omega⟩, λ hge => ?_⟩⟩⟩
    rw [show q = (AG a).g.length by omega, sy.cd, sy.kd]; simp
set_option maxHeartbeats 2000000 in
theorem p5e (a : BBB) (h1 : RI a.a) (h2 : RI a.b) (h3 : RI a.c) (hr : (AG a).r.length = 0) : V5e a := by
 have ok := Rz h1 h2 h3
 have sy := Pu ok
 have lm := ok.lm
 have r11 := ok.r11
 have g1 := ok.n.g1
 have g8 := ok.n.g8
 have hMl : (BG a).g.length = (AG a).g.length := rfl
 have hc := Kp ok
 have su : ∀ k, k <= 1000 -> 0 <= (FV (AZ a) k).used := λ k hk => (JX (RG h3) (by omega) k hk).used.1
 have su1 : ∀ k, k <= 1000 -> ∀ n, 0 <= (AM (FV (AZ a) k) n).used := λ k hk n => ((JX (RG h3) (by omega) k hk).next (by omega) n).used.1
 have su2 : ∀ k, k <= 1000 -> ∀ n m, 0 <= (AM (AM (FV (AZ a) k) n) m).used := λ k hk n m => (((JX (RG h3) (by omega) k hk).next (by omega) n).next (by omega) m).used.1
 have wl := JE (AZ a) (AG a).r
 have wl' := JE (AZ a) (BG a).r
 rw [Zv]; (conv => zeta); simp only [CC, eq_self, implies_true, forall_const, DL.m2, DL.d7, mo1, mo2, mo3, mo4, mo5, Yb, Ts, Hg, Jl, Ik, Is, cond_true, hc, List.cons_append, List.nil_append, List.append_nil, List.getD_cons_zero, List.getD_cons_succ]
 have hn : (AG a).r = noR := List.length_eq_zero_iff.1 hr
 have hm : (BG a).r = noR := List.length_eq_zero_iff.1 (by omega)
 have hmr : (BG a).r.length = 0 := by omega
 have hS : Vi a = AZ a := by unfold Vi; rw [hr]; rfl
 have no : ∀ {l : List Reach}, l.length = 0 -> ∀ (p : Nat -> Prop) (i : Nat), i < l.length -> p i := λ h p i hi => absurd hi (by omega)
 refine ⟨⟨rfl, (RG h1).mono (by omega), ⟨by omega, by omega⟩, hr⟩, ⟨rfl, (RG h2).mono (by omega), by omega, rfl⟩, by omega, ⟨0, ⟨rfl, hr, λ i hi => absurd hi (by omega), rfl, λ _ _ => ⟨rfl, rfl⟩, hmr, λ i hi => absurd hi (by omega), rfl, λ _ _ => rfl, rfl, rfl⟩, rfl⟩, λ i hi => ⟨λ hlt => absurd hlt (by omega), λ hge => ?out⟩⟩
 case out =>
  have u0 : 0 <= (AZ a).used := su 0 (by omega)
  have u1 : ∀ n, 0 <= (AM (AZ a) n).used := su1 0 (by omega)
  have u2 : ∀ n m, 0 <= (AM (AM (AZ a) n) m).used := su2 0 (by omega)
  have lW : (BT a).r.length = 0 := by rw [show (BT a).r = EB (AZ a) (AG a).r (AG a).r.length from rfl, wl, hr]
  have lE : (EC a).r.length = 0 := by rw [show (EC a).r = EB (AZ a) (BG a).r (AG a).r.length from rfl, wl', hmr]
  refine ⟨⟨λ hb => ?jt, λ hb => ?jf⟩, ?c19, ?tail⟩
  case jt =>
   have e1 := (ok.nj hb).rs
   have e2 := (ok.mx hb).rs
   rw [hn] at e1
   rw [hm] at e2
   have r1 := Ee e1 (n := 0) rfl
   have r2 := Ee e2 (n := 0) rfl
   unfold Bu UR Ih at r1 r2
   rw [hS] at r1 r2
   exact ⟨⟨u0, rfl, u1 _, rfl, u2 _ _⟩, λ h0 => absurd h0 (by omega), ⟨by decide, by decide, by decide, by decide⟩, ⟨0⟩, lW, λ i hi => absurd hi (by omega), by rw [(ok.nj hb).len, hr], by decide, r1, by rw [(ok.mx hb).len, hmr], by decide, r2, lE, λ i hi => absurd hi (by omega)⟩
  case jf =>
   have e1 : (BF a).r = noR := by show (if XM a then _ else _) = _; rw [hb, <- hn]; rfl
   have e2 : (DK a).r = noR := by show (if XM a then _ else _) = _; rw [hb, <- hm]; rfl
   rw [e1, e2]
   exact ⟨⟨0⟩, lW, λ i hi => absurd hi (by omega), rfl, λ i hi => absurd hi (Nat.not_lt_zero _), rfl, λ i hi => absurd hi (Nat.not_lt_zero _), lE, λ i hi => absurd hi (by omega)⟩
  case c19 => exact ⟨⟨0⟩, rfl, λ _ _ => ⟨rfl, rfl⟩, rfl, λ _ _ => ⟨rfl, rfl⟩, rfl, λ _ _ => ⟨rfl, rfl⟩, rfl, λ _ _ => ⟨rfl, rfl⟩⟩
  case tail =>
   have sz : ((AG a).r.length : Int) < 100 := by omega
   rw [sy.n, sy.w, sy.j, sy.ln, sy.lw, sy.gn, sy.gw, sy.gj]
   refine ⟨λ hb => ?_, λ _ => ⟨⟨0, rfl, Nat.zero_le _⟩, λ k hk => ⟨λ hlt => ?_, λ hge => ⟨⟨0, rfl, Nat.zero_le _⟩, λ j hj => ⟨λ hlt => ?_, λ hge => ?_⟩⟩⟩⟩⟩
   ·have := sy.lj
    rw [decide_eq_false (show ¬ ((AO (BF a)).length : Int) < (AG a).r.length by omega)] at hb
    simp at hb
   ·obtain ⟨⟨f1, f2⟩, f3, f4⟩ := sy.f k (by omega)
    have := sy.lj
    rw [decide_eq_false (show ¬ (gD (AO (BT a)) k).lo > (gD (AO (AG a)) k).lo by omega), decide_eq_false (show ¬ (gD (AO (BT a)) k).hi < (gD (AO (AG a)) k).hi by omega), decide_eq_false (show ¬ (gD (AO (BF a)) k).lo > (gD (AO (AG a)) k).lo by omega), decide_eq_false (show ¬ (gD (AO (BF a)) k).hi < (gD (AO (AG a)) k).hi by omega)]
    refine ⟨⟨⟨by omega, by omega⟩, ⟨by omega, by omega⟩, λ _ => ⟨by omega, by omega⟩, λ _ => ⟨by omega, by omega⟩, λ _ => ⟨by omega, by omega⟩, λ _ => ⟨by omega, by omega⟩, λ _ => ⟨by omega, by omega⟩, λ _ => ⟨by omega, by omega⟩⟩, λ hb => ?_, λ _ => ⟨k + 1, (BB (by omega)).symm, by omega, by omega⟩⟩
    simp at hb
   ·obtain ⟨⟨f1, f2⟩, f3, f4⟩ := sy.g j (by omega)
    rw [decide_eq_false (show ¬ (gD (AN (BT a)) j).lo > (gD (AN (AG a)) j).lo by omega), decide_eq_false (show ¬ (gD (AN (BT a)) j).hi < (gD (AN (AG a)) j).hi by omega), decide_eq_false (show ¬ (gD (AN (BF a)) j).lo > (gD (AN (AG a)) j).lo by omega), decide_eq_false (show ¬ (gD (AN (BF a)) j).hi < (gD (AN (AG a)) j).hi by omega)]
    refine ⟨⟨⟨by omega, by omega⟩, ⟨by omega, by omega⟩, λ _ => ⟨by omega, by omega⟩, λ _ => ⟨by omega, by omega⟩, λ _ => ⟨by omega, by omega⟩, λ _ => ⟨by omega, by omega⟩, λ _ => ⟨by omega, by omega⟩, λ _ => ⟨by omega, by omega⟩⟩, λ hb => ?_, λ _ => ⟨j + 1, (BB (by omega)).symm, by omega, by omega⟩⟩
    simp at hb
   ·have t1 : decide (FL (EC a) > FL (BG a)) = false := decide_eq_false (by have := sy.ke; omega)
    have t2 : decide (FL (DK a) > FL (BG a)) = false := decide_eq_false (by have := sy.kx; omega)
    rw [sy.cm, sy.ce, sy.cx, t1, t2]
    refine ⟨λ hb => by simp at hb, λ _ => ⟨⟨0, ⟨rfl, rfl, rfl, rfl, rfl, λ _ _ => ⟨rfl, rfl⟩⟩, Nat.zero_le _⟩, λ q hq => ⟨λ hlt => ⟨⟨by omega, by omega⟩, q + 1, ⟨by rw [QW, QW]; rfl, (BB (by omega)).symm⟩, by omega, by omega⟩, λ hge => ?_⟩⟩⟩
    rw [show q = (AG a).g.length by omega, sy.cd, sy.kd]; simp
theorem c5 (a : BBB) (h1 : RI a.a) (h2 : RI a.b) (h3 : RI a.c) : FnT Try.prog 5 (Uk a) (AE []) (.bool true) [] := by
 by_cases h : (AG a).r.length = 0
 ·exact RX (A := A5 a true) (ren := []) (fz := []) Try.func5 (by kernel_rfl) (AB Yj (AB Vh (AB Vb (AB Hh (AB Wu (AB Sb (AB Sd (AB Vy AH)))))))) (p5e a h1 h2 h3 h)
 ·exact RX (A := A5 a false) (ren := []) (fz := []) Try.func5 (by kernel_rfl) (AB Yj (AB ok29 (AB ok32 (AB Hh (AB Sj (AB Sb (AB Sd (AB Vy AH)))))))) (p5 a h1 h2 h3 h)
end Go.Bal
