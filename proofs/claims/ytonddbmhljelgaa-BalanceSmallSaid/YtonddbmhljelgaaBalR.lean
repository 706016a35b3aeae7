/- Package balance: Reached. -/
import Derived.Test.YtonddbmhljelgaaBalL
import Derived.Test.YtonddbmhljelgaaBalT14
set_option linter.unusedVariables false
set_option linter.unusedSimpArgs false
namespace Go.Bal
open Go Go.Sym Go.Proofs
structure NRF where
 N : NetL
 r : Int
 f : Int
def NRF.lacks (a : NRF) : Int := wr (a.f - (EW (AI a.N).all a.r).now)
def NRF.need (a : NRF) : Int := max a.lacks (wr (-a.lacks))
def NRF.sh (a : NRF) : Option (Desk × Int) := YG (AI a.N) a.r (decide (0 < a.lacks)) a.need
def NRF.res (a : NRF) : Desk × Int := a.sh.getD default
def FC (a : NRF) : Int := if AB a.N = 0 then if inM a.r 0 (a.N.r.length - 1) then if 0 < EV a.N then 6 else if inM a.f (-100000000) 100000000 then if a.res.2 = a.need then 0 else 5 else 5 else 2 else AB a.N
def A38 : Ann := ann 71 [(44, s44), (62, s62), (73, C73.spec fT), (77, C77.spec d77), (56, C56.spec Zi)]
def A38e : Ann := ann 71 [(44, s44), (62, s62), (73, C73b.spec fT)]
def xs38 (a : NRF) : List AVal := [.d (LW a.N), .int a.r, .int a.f]
def C38 : Ctr := { α := NRF, xs := xs38, L := λ _ => [], val := λ a => .tup [.d (OG (AW a.res.1)), .int 0], keep := λ _ => [], pre := λ a => [FC a = 0, (BH a.N).isSome = true, a.sh.isSome = true] }
def V38 (a : NRF) : Prop := BN Try.prog A38 Try.f38 (AF Try.f38) (C38.xs a) (AD (C38.L a)) (C38.val a) (C38.keep a) [] [15016, 15017]
abbrev NL:=NRF.N
abbrev Cs:=NRF.r
abbrev AJO a:=TR (Cs a)
abbrev BIM a b:=BBJ (NL a) (NL b)
abbrev BAK a:=ME (NRF.f a) (Us (BIM a a) (AJO a))
abbrev Xr a:=hd34 (BAK a) (ZU (BAK a))
abbrev iP a:=Ys (BAK a) 0
abbrev PN a:=BIM a a
abbrev kN a:=Lq (PN a)
abbrev CR a:=nU (kN a) (Cs a) (iP a) (Xr a)
abbrev sC a:=Zq (qH (AYB (NRF.res a)))
abbrev tF a:=Sx (CR a)
abbrev uO a:=Zo (qH (AYB (NRF.res a)))
abbrev Cf a:=IF (NL a)
abbrev Xz a:=Qs (NL a)
attribute [go_sem] NL Cs AJO BIM BAK Xr iP PN kN CR sC tF uO Cf Xz
theorem vc38 (a : NRF) : (V38 a) = (EG (Xj (AY (NL a)) (NL a)) (WO (Xz a) (Ew (Cs a) 0 (Ap (AM (NL a))))) (qO (RM (uO a)) (RM (sC a)) (nJ 2)) (IK (UD (Xz a)) (qO (RM (uO a)) (RM (sC a)) (AS 0 (Xz a))) (EG (SJ (NL a) (EF (DE (NL a)) (λ i=>HW i (NL a)) (EU (NL a)) (oP (Cf a)) (Qb (tW 0 (gP (Cf a)))))) (Ew (NRF.f a) (-100000000) 100000000) (qO (RM (uO a)) (RM (sC a)) (nJ 5)) (Tj (Xs (Cs a) (PN a)) (mL (AJO a) (PN a)) (ANH (Cs a) (QS (iP a)) (Xr a) (ZN (UG (PN a)) (OT (PN a)) (PN a) (λ i=>GZ i (PN a) (GU (PN a) i) (EN (PN a) i) (FG (PN a) i) (JU (PN a) i) (FJ (PN a) i) (IT (PN a) i) (EY (PN a) i)) (VZ (kN a)) (KX (Cs a) (RG (PN a))) (sN (YG (kN a) (Cs a) (iP a) (Xr a))))) (IK (SO (AQB (gJ (SA.mk (kN a) (Cs a) (iP a) (Xr a)))) (Xr a)) (qO (RM (uO a)) (RM (sC a)) (nJ 5)) (AP (BF (YW (CR a) (λ i=>GZ i (CR a) (GU (CR a) i) (EN (CR a) i) (FG (CR a) i) (JU (CR a) i) (FJ (CR a) i) (IT (CR a) i) (EY (CR a) i)) (λ i=>KV i (CR a) (MO (CR a) i) (FG (CR a) i) (EN (CR a) i) (FJ (CR a) i) (JU (CR a) i) (EY (CR a) i) (IT (CR a) i)) (Wt (tF a) (CR a)) (kJ (Oi (MP (CR a)) (tF a)) (CR a)))) (FI (uO a) (MP (CR a))) (BM (MP (CR a))) (BG (Dz (uO a) (Zo (oH (CR a)))) (FI (sC a) (tF a)) (BM (tF a)) (Dz (sC a) (Zq (oH (CR a)))) BX))))))) := by kernel_rfl
def C38b : Ctr := { α := NRF, xs := xs38, L := λ _ => [], val := λ a => .tup [.d (OG zT), .int (FC a)], keep := λ _ => [], pre := λ a => [FC a ≠ 0, AB a.N = 0 -> (BH a.N).isSome = true, FC a = 5 -> inM a.f (-100000000) 100000000 = true -> a.sh.isSome = true] }
def V38b (a : NRF) : Prop := BN Try.prog A38 Try.f38 (AF Try.f38) (C38b.xs a) (AD (C38b.L a)) (C38b.val a) (C38b.keep a) [] []
abbrev fL a b:=AVQ (FC a) b
attribute [go_sem] fL
theorem BQA (a : NRF) : (V38b a) = (EG (Xj (AY (NL a)) (NL a)) (WO (Xz a) (Ew (Cs a) 0 (Ap (AM (NL a))))) (fL a 2) (IK (UD (Xz a)) (fL a (Xz a)) (EG (SJ (NL a) (EF (DE (NL a)) (λ i=>HW i (NL a)) (EU (NL a)) (oP (Cf a)) (Qb (tW 0 (gP (Cf a)))))) (Ew (NRF.f a) (-100000000) 100000000) (fL a 5) (Tj (Xs (Cs a) (PN a)) (mL (AJO a) (PN a)) (ANH (Cs a) (QS (iP a)) (Xr a) (ZN (UG (PN a)) (OT (PN a)) (PN a) (λ i=>GZ i (PN a) (GU (PN a) i) (EN (PN a) i) (FG (PN a) i) (JU (PN a) i) (FJ (PN a) i) (IT (PN a) i) (EY (PN a) i)) (VZ (kN a)) (KX (Cs a) (RG (PN a))) (sN (YG (kN a) (Cs a) (iP a) (Xr a))))) (IK (SO (AQB (gJ (SA.mk (kN a) (Cs a) (iP a) (Xr a)))) (Xr a)) (fL a 5) (And (BF (YW (CR a) (λ i=>GZ i (CR a) (GU (CR a) i) (EN (CR a) i) (FG (CR a) i) (JU (CR a) i) (FJ (CR a) i) (IT (CR a) i) (EY (CR a) i)) (λ i=>KV i (CR a) (MO (CR a) i) (FG (CR a) i) (EN (CR a) i) (FJ (CR a) i) (JU (CR a) i) (EY (CR a) i) (IT (CR a) i)) (Wt (tF a) (CR a)) (kJ (Oi (MP (CR a)) (tF a)) (CR a)))) Gz)))))) := by kernel_rfl
def V38e (a : NRF) : Prop := BN Try.prog A38e Try.f38 (AF Try.f38) (C38b.xs a) (AD (C38b.L a)) (C38b.val a) (C38b.keep a) [] []
theorem BRB (a : NRF) : (V38e a) = (EG (Xj (AY (NL a)) (NL a)) (WO (Xz a) (Ew (Cs a) 0 (Ap (AM (NL a))))) (fL a 2) (IK (UD (Xz a)) (fL a (Xz a)) (JY (SC (NL a) (MY (Ov (Cf a))) (VK (EU (NL a)) (oP (Cf a)))) (Ov (Cf a)) (fL a (Ov (Cf a))) (IK (Ew (NRF.f a) (-100000000) 100000000) (fL a 5) Gz)))) := by kernel_rfl
theorem sU (N : NetL) : QB (Net.mk N.g.length (λ (i : Nat) => gD N.g i) N.r.length (λ (i : Nat) => gD N.r i)) = AB N := rfl
theorem BBT (r : Int) {n : Nat} (h : n <= 1000000) : inM r 0 (wr ((n : Int) - 1)) = inM r 0 ((n : Int) - 1) := by rw [FK (n := (n : Int) - 1) (by omega) (by omega)]
theorem G8 {a : NRF} (h : FC a = 0) : AB a.N = 0 /\ inM a.r 0 (a.N.r.length - 1) = true /\ ¬ 0 < EV a.N /\ inM a.f (-100000000) 100000000 = true /\ a.res.2 = a.need := by
 unfold FC at h
 by_cases h1 : AB a.N = 0
 ·rw [if_pos h1] at h
  by_cases h2 : inM a.r 0 (a.N.r.length - 1) = true
  ·rw [if_pos h2] at h
   by_cases h3 : 0 < EV a.N
   ·rw [if_pos h3] at h; cases h
   ·rw [if_neg h3] at h
    by_cases h4 : inM a.f (-100000000) 100000000 = true
    ·rw [if_pos h4] at h
     by_cases h5 : a.res.2 = a.need
     ·exact ⟨h1, h2, h3, h4, h5⟩
     ·rw [if_neg h5] at h; cases h
    ·rw [if_neg h4] at h; cases h
  ·rw [if_neg h2] at h; cases h
 ·rw [if_neg h1] at h; exact absurd h h1
theorem p38 (a : NRF) (h1 : FC a = 0) (h2 : (BH a.N).isSome = true) (h3 : a.sh.isSome = true) : V38 a := by
 obtain ⟨c1, c2, c3, c4, c5⟩ := G8 h1
 obtain ⟨l1, l2, l3⟩ := VX h2
 have hg := BB c1
 have g1 := hg.g1
 have g8 := hg.g8
 have r14 := hg.r14
 have hin := CV.1 c2
 have hr : 0 <= a.r /\ a.r < (AI a.N).all.length := by omega
 have hrn : a.r.toNat < (AI a.N).all.length := by omega
 have hw := BBT a.r (n := a.N.r.length) (by omega)
 obtain ⟨x, hx⟩ := Option.isSome_iff_exists.1 h3
 have hres : a.res = x := by unfold NRF.res; rw [hx]; rfl
 have hlen : a.res.1.all.length = (AI a.N).all.length /\ a.res.1.out = (AI a.N).out /\ a.res.1.nR = (AI a.N).nR := by
  rw [hres]; exact bB (t' := x.2) hx
 rw [vc38]<;> simp only [go_sem]; simp only [CC, eq_self, implies_true, forall_const, DL.d6, DL.d7, DL.d8, zE]
 have e1 : IntKind.i64.wrap (a.f - (gD (AI a.N).all a.r.toNat).now) = a.lacks := rfl
 simp only [e1]
 have e2 : max a.lacks (IntKind.i64.wrap (-a.lacks)) = a.need := rfl
 simp only [e2]
 have e3 : (SA.mk (AI a.N) a.r (decide (a.lacks > 0)) a.need).res = a.res := rfl
 have e4 : YG (AI a.N) a.r (decide (a.lacks > 0)) a.need = a.sh := rfl
 simp only [e3, e4, sU, c1, c4, c5, hlen, l1, l2, l3, Gh, Et]
 have hw' : inM a.r 0 (IntKind.i64.wrap ((a.N.r.length : Int) - 1)) = true := hw.trans c2
 simp only [hw', BEq.rfl, cond_true, Bool.not_true, Bool.false_eq_true, false_implies, true_and, bne_self_eq_false, reduceCtorEq, true_implies, h2, h3, l1, l2, l3, hr, hrn, and_true]
 exact ⟨c3, ⟨by omega, by omega⟩, ⟨wT c1 h2, by omega⟩, ⟨⟨by omega, by omega⟩, Nat.le_refl _⟩, Nat.le_refl _, λ _ _ => trivial, Nat.le_refl _, λ _ _ => trivial⟩
theorem AIG {a : NRF} (hc : AB a.N = 0) (hl : a.N.r.length <= 14) : ((bif AB a.N == 0 then !inM a.r 0 (IntKind.i64.wrap ((a.N.r.length : Int) - 1)) else false) = !inM a.r 0 ((a.N.r.length : Int) - 1)) := by
 have hw := BBT a.r (n := a.N.r.length) (by omega)
 have hw : inM a.r 0 (IntKind.i64.wrap ((a.N.r.length : Int) - 1)) = _ := hw
 rw [hw, hc]; rfl
theorem p38b (a : NRF) (h1 : FC a ≠ 0) (h2 : AB a.N = 0 -> (BH a.N).isSome = true) (h3 : AB a.N = 0 -> inM a.r 0 (a.N.r.length - 1) = true -> ¬ 0 < EV a.N -> inM a.f (-100000000) 100000000 = true -> a.sh.isSome = true) (h6 : ¬ 0 < EV a.N) : V38b a := by
 rw [BQA]<;> simp only [go_sem]; simp only [CC, eq_self, implies_true, forall_const, DL.d6, DL.d7, DL.d8, zE]
 have e1 : IntKind.i64.wrap (a.f - (gD (AI a.N).all a.r.toNat).now) = a.lacks := rfl
 simp only [e1]
 have e2 : max a.lacks (IntKind.i64.wrap (-a.lacks)) = a.need := rfl
 simp only [e2]
 have e3 : (SA.mk (AI a.N) a.r (decide (a.lacks > 0)) a.need).res = a.res := rfl
 have e4 : YG (AI a.N) a.r (decide (a.lacks > 0)) a.need = a.sh := rfl
 simp only [e3, e4, sU]
 by_cases hc : AB a.N = 0
 ·have hg := BB hc
  have g1 := hg.g1
  have g8 := hg.g8
  have r14 := hg.r14
  obtain ⟨l1, l2, l3⟩ := VX (h2 hc)
  rw [AIG hc r14]
  refine ⟨λ hb => ?_, λ hb => ⟨λ hn => absurd hc (by simpa using hn), λ _ => ⟨⟨hc, h2 hc, h6⟩, λ hf => ?_, λ hf => ?_⟩⟩⟩
  ·have hb : inM a.r 0 (a.N.r.length - 1) = false := by simpa using hb
   unfold FC; rw [if_pos hc, hb]; rfl
  all_goals have hb : inM a.r 0 (a.N.r.length - 1) = true := by simpa using hb
  ·unfold FC; rw [if_pos hc, if_pos hb, if_neg h6, hf]; rfl
  ·have hin := CV.1 hb
   have hr : 0 <= a.r /\ a.r < (AI a.N).all.length := by omega
   have hs := h3 hc hb h6 hf
   refine ⟨⟨hr, by omega⟩, ⟨wT hc (h2 hc), hr, hs⟩, λ hne => ?_, λ he => ?_⟩
   ·have hne : ¬ a.res.2 = a.need := by simpa using hne
    unfold FC; rw [if_pos hc, if_pos hb, if_neg h6, if_pos hf, if_neg hne]
   ·have he : a.res.2 = a.need := by simpa using he
    exact absurd (by unfold FC; rw [if_pos hc, if_pos hb, if_neg h6, if_pos hf, if_pos he]) h1
 ·have hb : (AB a.N == 0) = false := by simpa using hc
  have hb2 : (AB a.N != 0) = true := by simpa using hc
  rw [hb, hb2]
  refine ⟨λ h => (by cases h), λ _ => ⟨λ _ => (by unfold FC; rw [if_neg hc]), λ h => (by cases h)⟩⟩
theorem p38e (a : NRF) (h1 : FC a ≠ 0) (h2 : AB a.N = 0 -> (BH a.N).isSome = true) (h6 : 0 < EV a.N) : V38e a := by
 rw [BRB]<;> simp only [go_sem]; simp only [CC, eq_self, implies_true, forall_const, DL.d6, DL.d7, DL.d8, sU]
 by_cases hc : AB a.N = 0
 ·have hg := BB hc
  have r14 := hg.r14
  have hf : WM a.N = 6 := by unfold WM; rw [if_pos hc, if_pos h6]
  rw [AIG hc r14, hf]
  refine ⟨λ hb => ?_, λ hb => ⟨λ hn => absurd hc (by simpa using hn), λ _ => ⟨⟨by decide, h2⟩, λ _ => ?_, λ h => absurd h (by decide)⟩⟩⟩
  ·have hb : inM a.r 0 (a.N.r.length - 1) = false := by simpa using hb
   unfold FC; rw [if_pos hc, hb]; rfl
  ·have hb : inM a.r 0 (a.N.r.length - 1) = true := by simpa using hb
   unfold FC; rw [if_pos hc, if_pos hb, if_pos h6]
 ·have hb : (AB a.N == 0) = false := by simpa using hc
  have hb2 : (AB a.N != 0) = true := by simpa using hc
  rw [hb, hb2]
  refine ⟨λ h => (by cases h), λ _ => ⟨λ _ => (by unfold FC; rw [if_neg hc]), λ h => (by cases h)⟩⟩
end Go.Bal

namespace Go.Bal
open Go
variable {N : NetL} {T : TruthL}
theorem tE (h : AB N = 0) (hc : EV N = 0) {r : Nat} (hr : r < N.r.length) {f : Int} (hf : -100000000 <= f /\ f <= 100000000) :
  (NRF.mk N r f).sh.isSome = true /\ ((NRF.mk N r f).res.2 = (NRF.mk N r f).need ↔ (gD (Zj N) r).lo <= f /\ f <= (gD (Zj N) r).hi) /\
  ((NRF.mk N r f).res.2 = (NRF.mk N r f).need -> Can N (AW (NRF.mk N r f).res.1) /\ gD (AW (NRF.mk N r f).res.1).f r = f) := by
 have hg := BB h
 obtain ⟨h2, π, hs⟩ := BY h
 obtain ⟨l1, l2, l3⟩ := VX h2
 have hS := ATA h (by omega)
 have hri : r < (AI N).all.length := by omega
 have hsm := Pv h hri
 have hsp := AIK h hc hr
 obtain ⟨Tl, cl, el⟩ := hsp.lo
 obtain ⟨Th, ch, eh⟩ := hsp.hi
 have ew : EW (AI N).all (r : Int) = gD (AI N).all r := by simp [EW]
 have el' : (NRF.mk N r f).lacks = f - (gD (AI N).all r).now := by
  unfold NRF.lacks; simp only [ew]; exact FK (by omega) (by omega)
 have en : (NRF.mk N r f).need = max (f - (gD (AI N).all r).now) (-(f - (gD (AI N).all r).now)) := by
  unfold NRF.need; rw [el', FK (n := -(f - (gD (AI N).all r).now)) (by omega) (by omega)]
 have hfu : (3000000000 : Int) < fuel := by unfold fuel; decide
 obtain ⟨d', t, s1, s2, s3, s4, s5, s6, s7⟩ := Pk (at' := (r : Int)) (up := decide (0 < (NRF.mk N r f).lacks)) (most := (NRF.mk N r f).need) (by rw [en]; omega) fuel (AI N) 0 hS (by omega) (by omega) (by rw [en]; omega)
 have hsh : (NRF.mk N r f).sh = some (d', t) := s1
 have hres : (NRF.mk N r f).res = (d', t) := by unfold NRF.res; rw [hsh]; rfl
 have hL' := hs.like.trans s3
 have e0 : ((r : Nat) : Int).toNat = r := by omega
 rw [e0] at s6
 have hcan := AMX h hL' s2
 have hflow : gD (AW d').f r = (gD d'.all r).now := jX (by rw [hL'.nR]; exact hr)
 have hnow : t = (NRF.mk N r f).need -> (gD d'.all r).now = f := λ ht => by
  rw [s6, ht, en]
  by_cases hl : 0 < (NRF.mk N r f).lacks
  ·rw [if_pos (by simpa using hl)]; rw [el'] at hl; omega
  ·rw [if_neg (by simpa using hl)]; rw [el'] at hl; omega
 refine ⟨by rw [hsh]; rfl, ?_, ?_⟩
 ·rw [hres]
  constructor
  ·intro ht
   have := hsp.all _ hcan
   simp only [hflow, hnow ht] at this
   exact this
  ·intro hin
   refine Classical.byContradiction λ hne => ?_
   have hst := s7.resolve_left (by simp only at hne; omega)
   have hlt : t < (NRF.mk N r f).need := by
    simp only at hne
    rcases s5 with h5 | h5
    ·omega
    ·rw [en] at hne ⊢; omega
   have mst := λ (T : TruthL) (hT : Can N T) => tZ s2 (lS hT).1 (Cl hL' (lS hT).2) (at' := (r : Int)) (by rw [s3.len]; omega) hst
   have ml := mst Tl cl
   have mh := mst Th ch
   rw [e0, NK hr] at ml mh
   simp only at ml mh el eh
   by_cases hl : 0 < (NRF.mk N r f).lacks
   ·rw [if_pos (by simpa using hl)] at mh s6
    rw [el'] at hl
    rw [en] at hlt
    omega
   ·rw [if_neg (by simpa using hl)] at ml s6
    rw [el'] at hl
    rw [en] at hlt
    omega
 ·rw [hres]
  intro ht
  exact ⟨hcan, by rw [hflow]; exact hnow ht⟩
end Go.Bal

namespace Go.Bal
open Go
variable {N : NetL} {T : TruthL}
theorem ANN {n : Nat} (hn : 1 <= n /\ n <= 8) : ∀ (l : List Int) (last : Int), -1 <= last -> last <= 100 -> (grpBad n last l = false ↔ (∀ x ∈ l, last < x /\ x < n) /\ l.Pairwise (· < ·))
 | [], last, _, _ => by simp [grpBad]
 | s :: l, last, h0, h1 => by
  simp only [grpBad, Bool.or_eq_false_iff, Bool.not_eq_false', CV]
  rw [FK (n := last + 1) (by omega) (by omega), FK (n := (n : Int) - 1) (by omega) (by omega), List.pairwise_cons]
  constructor
  ·rintro ⟨h2, h3⟩
   obtain ⟨h4, h5⟩ := (ANN hn l s (by omega) (by omega)).1 h3
   refine ⟨λ x hx => ?_, λ x hx => (h4 x hx).1, h5⟩
   rcases List.mem_cons.1 hx with rfl | hx
   ·omega
   ·have := h4 x hx; omega
  ·rintro ⟨h2, h3, h4⟩
   have hs := h2 s (by simp)
   exact ⟨by omega, (ANN hn l s (by omega) (by omega)).2 ⟨λ x hx => ⟨h3 x hx, (h2 x (by simp [hx])).2⟩, h4⟩⟩
structure Grp (n : Nat) (st : List Int) : Prop where
 mem : ∀ x ∈ st, 0 <= x /\ x < n
 inc : st.Pairwise (· < ·)
theorem AEN {n : Nat} (hn : 1 <= n /\ n <= 8) {st : List Int} : grpBad n (-1) st = false ↔ Grp n st := by
 rw [ANN hn st (-1) (by omega) (by omega)]
 constructor
 ·rintro ⟨a, b⟩; exact ⟨λ x hx => by have := a x hx; omega, b⟩
 ·rintro ⟨a, b⟩; exact ⟨λ x hx => by have := a x hx; omega, b⟩
def Z7 (nR : Nat) (all : List Way) (st : List Int) : Int := OY (λ s => (gD all (nR + s.toNat)).now) st
theorem N5 {out nR n : Nat} (ho : out <= 8) (hR : nR <= 14) (hn : n <= 8) : ∀ (st : List Int) (all : List Way) (t K : Int), Grp n st -> nR + n <= all.length -> (∀ j, j < n -> (gD all (nR + j)).fr = out ∨ ∀ x ∈ st, x ≠ j) -> (∀ j, j < n -> -1000000000 <= (gD all (nR + j)).now /\ (gD all (nR + j)).now <= 1000000000) -> -K <= t /\ t <= K -> K + 1000000000 * st.length <= 1000000000000000 ->
  (MT out nR st all t).2 = t + Z7 nR all st /\ (MT out nR st all t).1.length = all.length /\ (∀ v, LM v (MT out nR st all t).1 = LM v all + ind v out (Z7 nR all st) - ind v ((out : Int) + 1) (Z7 nR all st)) /\
  ∀ i, gD (MT out nR st all t).1 i = if ∃ x ∈ st, (i : Int) = nR + x then { (gD all i) with fr := (out : Int) + 1 } else gD all i
 | [], all, t, K, _, _, _, _, _, _ => by simp [MT, Z7, OY, ind]
 | s :: l, all, t, K, hg, hl, hf, hb, ht, hK => by
  obtain ⟨hs0, hs1⟩ := hg.mem s (by simp)
  obtain ⟨hp, hpl⟩ := List.pairwise_cons.1 hg.inc
  have e1 : wr ((nR : Int) + s) = nR + s := FK (by omega) (by omega)
  have e2 : wr ((out : Int) + 1) = out + 1 := FK (by omega) (by omega)
  have e3 : ((nR : Int) + s).toNat = nR + s.toNat := by omega
  have hi : nR + s.toNat < all.length := by omega
  have hbs := hb s.toNat (by omega)
  rw [List.length_cons] at hK
  have e4 : wr (t + (gD all (nR + s.toNat)).now) = t + (gD all (nR + s.toNat)).now := FK (by omega) (by omega)
  have hgm : ∀ i, gD (all.modify (nR + s.toNat) λ w => { w with fr := (out : Int) + 1 }) i = if i = nR + s.toNat then { (gD all (nR + s.toNat)) with fr := (out : Int) + 1 } else gD all i := λ i => BD hi i
  have hne : ∀ x ∈ l, x ≠ s := λ x hx => by have := hp x hx; omega
  have hsum : Z7 nR (all.modify (nR + s.toNat) λ w => { w with fr := (out : Int) + 1 }) l = Z7 nR all l := Iv λ x hx => by
   have := hg.mem x (by simp [hx])
   have := hne x hx
   show (gD (all.modify _ _) _).now = _
   rw [hgm, if_neg (by omega)]
  have hfs : (gD all (nR + s.toNat)).fr = out := (hf s.toNat (by omega)).resolve_right λ h => h s (by simp) (by omega)
  obtain ⟨a, b, c, d⟩ := N5 ho hR hn l (all.modify (nR + s.toNat) λ w => { w with fr := (out : Int) + 1 }) (t + (gD all (nR + s.toNat)).now) (K + 1000000000) ⟨λ x hx => hg.mem x (by simp [hx]), hpl⟩ (by rw [List.length_modify]; exact hl) (λ j hj => by
   rw [hgm]
   by_cases he : nR + j = nR + s.toNat
   ·right; intro x hx; have := hp x hx; omega
   ·rw [if_neg he]
    rcases hf j hj with h | h
    ·exact .inl h
    ·exact .inr λ x hx => h x (by simp [hx])) (λ j hj => by
   rw [hgm]
   by_cases he : nR + j = nR + s.toNat
   ·rw [if_pos he]; exact hbs
   ·rw [if_neg he]; exact hb j hj) (by omega) (by omega)
  simp only [MT, e1, e2, e3, e4]
  rw [hsum] at a c
  have hcons : Z7 nR all (s :: l) = (gD all (nR + s.toNat)).now + Z7 nR all l := rfl
  refine ⟨by rw [a, hcons]; omega, by rw [b, List.length_modify], λ v => ?_, λ i => ?_⟩
  ·rw [c, Lv v _ (ind v out (gD all (nR + s.toNat)).now - ind v ((out : Int) + 1) (gD all (nR + s.toNat)).now) all _ hi]
   ·rw [hcons]
    unfold ind
    by_cases h1 : (out : Int) = v
    ·have h2 : ¬ (out : Int) + 1 = v := by omega
     simp only [if_pos h1, if_neg h2]; omega
    ·by_cases h2 : (out : Int) + 1 = v
     ·simp only [if_neg h1, if_pos h2]; omega
     ·simp only [if_neg h1, if_neg h2]; omega
   ·unfold Pi ind
    simp only [hfs]
    by_cases h1 : (out : Int) = v
    ·have h2 : ¬ (out : Int) + 1 = v := by omega
     simp only [if_pos h1, if_neg h2]; omega
    ·simp only [if_neg h1]; omega
  ·rw [d]
   by_cases h1 : ∃ x ∈ l, (i : Int) = nR + x
   ·obtain ⟨x, hx, he⟩ := h1
    have := hne x hx
    rw [if_pos ⟨x, hx, he⟩, if_pos ⟨x, by simp [hx], he⟩, hgm, if_neg (by have := hg.mem x (by simp [hx]); omega)]
   ·rw [if_neg h1, hgm]
    by_cases h2 : i = nR + s.toNat
    ·subst h2
     rw [if_pos rfl, if_pos ⟨s, by simp, by omega⟩]
    ·rw [if_neg h2, if_neg]
     rintro ⟨x, hx, he⟩
     rcases List.mem_cons.1 hx with rfl | hx
     ·exact h2 (by omega)
     ·exact h1 ⟨x, hx, he⟩
theorem W7 (v : Int) : ∀ l m : List Way, LM v (l ++ m) = LM v l + LM v m
 | [], m => by simp [LM]
 | w :: l, m => by simp only [List.cons_append, LM, W7 v l m]; omega
structure GD (N : NetL) (st : List Int) (d : Desk) : Prop where
 len : (GH d st).all.length = d.all.length + 1
 out : (GH d st).out = d.out
 nR : (GH d st).nR = d.nR
 way : ∀ i, i < d.all.length -> gD (GH d st).all i = if ∃ x ∈ st, (i : Int) = d.nR + x then { (gD d.all i) with fr := (d.out : Int) + 1 } else gD d.all i
 last : gD (GH d st).all d.all.length = ⟨d.out, d.out + 1, ⟨-100000000, 100000000⟩, Z7 d.nR d.all st⟩
 LM : ∀ v, LM v (GH d st).all = LM v d.all
theorem RC (hg : Good N) {st : List Int} (hs : Grp N.g.length st) (hs8 : st.length <= 1000) {d : Desk} (hl : Alike (AO N) d) (hb : ∀ i, i < d.all.length -> -1000000000 <= (gD d.all i).now /\ (gD d.all i).now <= 1000000000) : GD N st d := by
 obtain ⟨e1, e2, e3⟩ := OC hl
 have hnR : d.nR = N.r.length := hl.nR
 have hout : d.out = N.g.length := hl.out
 have h8 := hg.g8
 have h14 := hg.r14
 obtain ⟨a, b, c, f⟩ := N5 (out := d.out) (nR := d.nR) (n := N.g.length) (by omega) (by omega) h8 st d.all 0 0 hs (by omega) (λ j hj => .inl (by rw [hnR, (e3 j hj).2.1, hout])) (λ j hj => hb _ (by omega)) (by omega) (by omega)
 have hX : (GH d st).all = (MT d.out d.nR st d.all 0).1 ++ [(⟨d.out, wr (d.out + 1), ⟨-100000000, 100000000⟩, (MT d.out d.nR st d.all 0).2⟩ : Way)] := rfl
 have ew : wr ((d.out : Int) + 1) = d.out + 1 := FK (by omega) (by omega)
 rw [ew, a, Int.zero_add] at hX
 refine ⟨by rw [hX, List.length_append, b]; rfl, rfl, rfl, λ i hi => ?_, ?_, λ v => ?_⟩
 ·rw [hX, CP, b, if_pos hi, f]
 ·rw [hX, CP, b, if_neg (by omega), Nat.sub_self]; rfl
 ·rw [hX, W7, c]
  simp only [LM, Pi, ind]
  by_cases h1 : (d.out : Int) = v
  ·have h2 : ¬ (d.out : Int) + 1 = v := by omega
   simp only [if_pos h1, if_neg h2]; omega
  ·simp only [if_neg h1]; omega
def Qq (st : List Int) (T : TruthL) : Int := OY (λ s => gD T.t s.toNat) st
theorem fE {st : List Int} (hs : Grp N.g.length st) : Z7 N.r.length (AV N T).all st = Qq st T := Iv λ x hx => by
 have := hs.mem x hx
 show (gD (AV N T).all _).now = _
 rw [OU (by omega)]
theorem Eg {n : Nat} {st : List Int} (hs : Grp n st) : st.length <= n := by
 refine W8 n st ?_ λ x hx => by have := hs.mem x hx; omega
 exact hs.inc.imp λ h => by omega
theorem S5 {st : List Int} (hs : Grp N.g.length st) (h8 : N.g.length <= 8) (hb : ∀ j, j < N.g.length -> -1000000 <= gD T.t j /\ gD T.t j <= 1000000) : -8000000 <= Qq st T /\ Qq st T <= 8000000 := by
 have hl := Eg hs
 have c1 : OY (λ s => gD T.t s.toNat) st <= 1000000 * st.length := A8 λ x hx => by
  have := hs.mem x hx; exact (hb x.toNat (by omega)).2
 have c2 : OY (λ s => -gD T.t s.toNat) st <= 1000000 * st.length := A8 λ x hx => by
  have := hs.mem x hx; have := (hb x.toNat (by omega)).1; omega
 have c3 := yL (λ s : Int => gD T.t s.toNat) (λ s => -gD T.t s.toNat) st
 have c4 : OY (λ s : Int => gD T.t s.toNat + -gD T.t s.toNat) st = 0 := by
  rw [Iv (g := λ _ => 0) λ x _ => by omega, Ld, YA]
 unfold Qq
 omega
theorem vT (hC : Can N T) {st : List Int} (hs : Grp N.g.length st) : InS (GH (AV N T) st) := by
 obtain ⟨hc, l1, l2, hT⟩ := Ux hC.ask
 have hg := BB hc
 have h8 := hg.g8
 have h14 := hg.r14
 obtain ⟨hi, hl⟩ := lS hC
 have hlen : (AV N T).all.length = N.r.length + N.g.length := EB
 have hsp := gC hg hl
 obtain ⟨g1, g2, g3, g4, g5, g6⟩ := RC hg hs (by have := Eg hs; omega) hl (λ i hi' => by have := hi.now i hi'; have := hsp i hi'; omega)
 have hbd : -8000000 <= Qq st T /\ Qq st T <= 8000000 := S5 hs h8 λ j hj => by
  have h1 := ((bR hc).1 hC).2.2.1 j hj
  have := hg.g j hj
  omega
 have hval : Z7 (AV N T).nR (AV N T).all st = Qq st T := fE hs
 refine ⟨AIN hi.ok (by omega) st, λ i hi' => ?_, λ i hi' => ?_, λ v hv => by rw [g6]; exact hi.zero v hv⟩
 ·rw [g1] at hi'
  by_cases he : i < (AV N T).all.length
  ·rw [g4 i he]
   have := hi.sp i he
   split <;> exact this
  ·rw [show i = (AV N T).all.length by omega, g5]; simp only; omega
 ·rw [g1] at hi'
  by_cases he : i < (AV N T).all.length
  ·rw [g4 i he]
   have := hi.now i he
   split <;> exact this
  ·rw [show i = (AV N T).all.length by omega, g5, hval]; simp only; omega
theorem ARF (hg : Good N) {st : List Int} (hs : Grp N.g.length st) {d1 d2 : Desk} (h1 : Alike (AO N) d1) (h2 : Alike (AO N) d2) (b1 : ∀ i, i < d1.all.length -> -1000000000 <= (gD d1.all i).now /\ (gD d1.all i).now <= 1000000000) (b2 : ∀ i, i < d2.all.length -> -1000000000 <= (gD d2.all i).now /\ (gD d2.all i).now <= 1000000000) : Alike (GH d1 st) (GH d2 st) := by
 have h8 := hg.g8
 have a := Cl h1 h2
 obtain ⟨g1, g2, g3, g4, g5, _⟩ := RC hg hs (by have := Eg hs; omega) h1 b1
 obtain ⟨k1, k2, k3, k4, k5, _⟩ := RC hg hs (by have := Eg hs; omega) h2 b2
 refine ⟨by rw [g2, k2]; exact a.out, by rw [g3, k3]; exact a.nR, by rw [g1, k1, a.len], λ i hi => ?_⟩
 rw [g1] at hi
 have hl := a.len
 by_cases he : i < d1.all.length
 ·rw [g4 i he, k4 i (by omega), a.nR, a.out]
  obtain ⟨q1, q2, q3⟩ := a.way i he
  split
  ·exact ⟨rfl, q2, q3⟩
  ·exact ⟨q1, q2, q3⟩
 ·have e : i = d1.all.length := by omega
  subst e
  rw [g5, show d1.all.length = d2.all.length by omega, k5, a.out]
  exact ⟨rfl, rfl, rfl⟩
theorem tT (h : AB N = 0) (hc : EV N = 0) {st : List Int} (hs : Grp N.g.length st) {d' : Desk} (hi : InS d') (hl : Alike (GH (AI N) st) d') : ∃ T, Can N T /\ (gD d'.all (AI N).all.length).now = Qq st T := by
 have hg := BB h
 have h8 := hg.g8
 have h14 := hg.r14
 obtain ⟨π, hf, hz, hL, hsome⟩ := cN h
 obtain ⟨e1, e2, e3⟩ := OC hL
 obtain ⟨g1, g2, g3, g4, g5, g6⟩ := RC hg hs (by have := Eg hs; omega) hL (λ i hi' => by have := Pv h hi'; omega)
 have hnR : (AI N).nR = N.r.length := hL.nR
 have hout : (AI N).out = N.g.length := hL.out
 have hlen' : d'.all.length = N.r.length + N.g.length + 1 := by rw [hl.len, g1, e1]
 let T : TruthL := ⟨(List.range N.r.length).map λ i => (gD d'.all i).now, (List.range N.g.length).map λ j => (gD d'.all (N.r.length + j)).now⟩
 have tf : ∀ i, i < N.r.length -> gD T.f i = (gD d'.all i).now := λ i hi => DY (λ i => (gD d'.all i).now) hi
 have tt : ∀ j, j < N.g.length -> gD T.t j = (gD d'.all (N.r.length + j)).now := λ j hj => DY (λ j => (gD d'.all (N.r.length + j)).now) hj
 have hl1 : T.f.length = N.r.length := by simp [T]
 have hl2 : T.t.length = N.g.length := by simp [T]
 have way : ∀ i, i < N.r.length + N.g.length -> (gD d'.all i).to = (gD (AI N).all i).to /\ (gD d'.all i).sp = (gD (AI N).all i).sp /\ (gD d'.all i).fr = if ∃ x ∈ st, (i : Int) = N.r.length + x then (N.g.length : Int) + 1 else (gD (AI N).all i).fr := λ i hi => by
  obtain ⟨a, b, c⟩ := hl.way i (by rw [g1]; omega)
  rw [a, b, c, g4 i (by omega), hnR, hout]
  split <;> exact ⟨rfl, rfl, rfl⟩
 have now : ∀ i, i < N.r.length + N.g.length -> (gD (AV N T).all i).now = (gD d'.all i).now := by
  refine QQ (λ i hi => ?_) (λ j hj => ?_)
  ·rw [NK hi]; exact tf i hi
  ·rw [OU hj]; exact tt j hj
 have inT : ∀ i, i < (AV N T).all.length -> (gD (AV N T).all i).sp.lo <= (gD (AV N T).all i).now /\ (gD (AV N T).all i).now <= (gD (AV N T).all i).sp.hi := λ i hi' => by
  have hi2 : i < N.r.length + N.g.length := by rw [<- EB (N := N) (T := T)]; exact hi'
  have h1 := hi.now i (by omega)
  rw [(way i hi2).2.1] at h1
  have h2 := ((Cl hL (JF (T := T))).way i (by omega)).2.2
  rw [now i hi2, h2]; exact h1
 have hspT := gC hg (JF (T := T))
 have hbT : ∀ i, i < (AV N T).all.length -> -1000000000 <= (gD (AV N T).all i).now /\ (gD (AV N T).all i).now <= 1000000000 := λ i hi' => by have := inT i hi'; have := hspT i hi'; omega
 obtain ⟨k1, k2, k3, k4, k5, k6⟩ := RC hg hs (by have := Eg hs; omega) (JF (T := T)) hbT
 have hlT : (AV N T).all.length = N.r.length + N.g.length := EB
 -- the same ways, but for what passes the gate
 have hX : d'.all = (GH (AV N T) st).all.set (N.r.length + N.g.length) (gD d'.all (N.r.length + N.g.length)) := by
  refine Jc (by rw [List.length_set, k1]; omega) λ i hi' => ?_
  rw [BIP (by omega)]
  by_cases he : i = N.r.length + N.g.length
  ·rw [if_pos he, he]
  ·rw [if_neg he, k4 i (by omega)]
   have hi2 : i < N.r.length + N.g.length := by omega
   obtain ⟨a, b, c⟩ := way i hi2
   obtain ⟨p, q, r⟩ := (Cl hL (JF (T := T))).way i (by omega)
   have n := now i hi2
   have hnr' : (AV N T).nR = N.r.length := rfl
   have hot' : (AV N T).out = N.g.length := rfl
   rw [hnr', hot']
   cases hq : gD d'.all i with | mk x1 x2 x3 x4 =>
   rw [hq] at a b c n
   simp only at a b c n
   cases hw : gD (AV N T).all i with | mk y1 y2 y3 y4 =>
   rw [hw] at p q r n
   simp only at p q r n
   split
   ·rename_i hx
    rw [if_pos hx] at c
    show Way.mk x1 x2 x3 x4 = Way.mk ((N.g.length : Int) + 1) y2 y3 y4
    rw [q, r, n, <- a, <- b, c]
   ·rename_i hx
    rw [if_neg hx] at c
    rw [p, q, r, n, <- a, <- b, c]
 have hlast : gD (GH (AV N T) st).all (N.r.length + N.g.length) = ⟨N.g.length, N.g.length + 1, ⟨-100000000, 100000000⟩, Qq st T⟩ := by
  rw [<- hlT, k5, show (AV N T).nR = N.r.length from rfl, fE hs]; rfl
 have hl0 : (gD d'.all (N.r.length + N.g.length)).fr = N.g.length /\ (gD d'.all (N.r.length + N.g.length)).to = N.g.length + 1 := by
  obtain ⟨a, b, c⟩ := hl.way (N.r.length + N.g.length) (by rw [g1]; omega)
  rw [a, b, <- e1, g5, hout]; exact ⟨rfl, rfl⟩
 have hLT := Ze (T := T) hg.w
 have excd : ∀ v, LM v d'.all = LM v (AV N T).all + (ind v ((N.g.length : Int) + 1) ((gD d'.all (N.r.length + N.g.length)).now - Qq st T) - ind v (N.g.length : Int) ((gD d'.all (N.r.length + N.g.length)).now - Qq st T)) := λ v => by
  have hm : d'.all = (GH (AV N T) st).all.modify (N.r.length + N.g.length) (λ _ => gD d'.all (N.r.length + N.g.length)) := by
   refine Jc (by rw [List.length_modify, k1]; omega) λ i hi' => ?_
   rw [BD (by omega)]
   conv => lhs; rw [hX]
   rw [BIP (by omega)]
  have := Lv v (λ _ => gD d'.all (N.r.length + N.g.length)) (ind v ((N.g.length : Int) + 1) ((gD d'.all (N.r.length + N.g.length)).now - Qq st T) - ind v (N.g.length : Int) ((gD d'.all (N.r.length + N.g.length)).now - Qq st T)) (GH (AV N T) st).all (N.r.length + N.g.length) (by omega) (by
   rw [hlast]
   unfold Pi ind
   simp only [hl0.1, hl0.2]
   by_cases h1 : (N.g.length : Int) + 1 = v
   ·have h2 : ¬ (N.g.length : Int) = v := by omega
    simp only [if_pos h1, if_neg h2]; omega
   ·by_cases h2 : (N.g.length : Int) = v
    ·simp only [if_neg h1, if_pos h2]; omega
    ·simp only [if_neg h1, if_neg h2]; omega)
  rw [k6] at this
  rw [<- this, <- hm]
 have hgate : (gD d'.all (N.r.length + N.g.length)).now = Qq st T := by
  have h1 := hi.zero (N.g.length + 1) (by omega)
  have h2 : LM ((N.g.length + 1 : Nat) : Int) (AV N T).all = 0 := hLT.zero (by show N.g.length < _; omega)
  rw [excd, h2] at h1
  unfold ind at h1
  rw [if_pos (by omega), if_neg (by omega)] at h1
  omega
 have hzT : ∀ v : Nat, v < 10 -> LM v (AV N T).all = 0 := λ v hv => by
  have h1 := hi.zero v hv
  rw [excd, hgate, Int.sub_self] at h1
  unfold ind at h1
  simpa using h1
 have hin : InS (AV N T) := ⟨hLT.ok, λ i hi' => by have := hspT i hi'; omega, inT, hzT⟩
 refine ⟨T, ?_, by rw [e1]; exact hgate⟩
 have := AMX h JF hin
 rw [M2 hl1 hl2] at this
 exact this
theorem AGM (h : AB N = 0) (hc : EV N = 0) {st : List Int} (hb : grpBad N.g.length (-1) st = false) :
  (JM (GH (AI N) st) (AI N).all.length).isSome = true /\ IsSpan N (Qq st) (To ⟨N, st⟩) := by
 have hg := BB h
 have h8 := hg.g8
 have hs : Grp N.g.length st := (AEN ⟨hg.g1, h8⟩).1 hb
 obtain ⟨π, hf, hz, hL, hsome⟩ := cN h
 have hset := BBX h hc
 have hdt : AV N (S1 N) = AI N := WP hL
 have hsm : ∀ i, i < (AI N).all.length -> -1000000000 <= (gD (AI N).all i).now /\ (gD (AI N).all i).now <= 1000000000 := λ i hi => by have := Pv h hi; omega
 have hin := vT hset hs
 rw [hdt] at hin
 obtain ⟨g1, _⟩ := RC hg hs (by have := Eg hs; omega) hL hsm
 have val : ∀ d', InS d' -> Alike (GH (AI N) st) d' -> ∃ T, Can N T /\ (gD d'.all (AI N).all.length).now = Qq st T := λ d' i a => tT h hc hs i a
 have bd : ∀ T, Can N T -> -8000000 <= Qq st T /\ Qq st T <= 8000000 := λ T hT => S5 hs h8 λ j hj => by
  have h1 := ((bR h).1 hT).2.2.1 j hj
  have := hg.g j hj
  omega
 obtain ⟨s, dl, dh, e, ⟨il, al, nl⟩, ⟨ih, ah, nh⟩, ha⟩ := ARP hin (at' := (AI N).all.length) (by omega) λ d' i a => by
  obtain ⟨T1, c1, v1⟩ := val d' i a
  obtain ⟨T2, c2, v2⟩ := val _ hin (Alike.refl _)
  have := bd T1 c1
  have := bd T2 c2
  omega
 have eg : To ⟨N, st⟩ = s := by
  show (JM (GH (AI N) st) (AI N).all.length).getD default = s
  rw [e]; rfl
 rw [e, eg]
 refine ⟨rfl, ?_, ?_, λ T hT => ?_⟩
 ·obtain ⟨T1, c1, v1⟩ := val dl il al
  exact ⟨T1, c1, by rw [<- v1, nl]⟩
 ·obtain ⟨T1, c1, v1⟩ := val dh ih ah
  exact ⟨T1, c1, by rw [<- v1, nh]⟩
 ·obtain ⟨i1, a1⟩ := lS hT
  have hbT : ∀ i, i < (AV N T).all.length -> -1000000000 <= (gD (AV N T).all i).now /\ (gD (AV N T).all i).now <= 1000000000 := λ i hi' => by have := i1.now i hi'; have := i1.sp i hi'; omega
  have hlT : (AV N T).all.length = (AI N).all.length := by rw [EB, (OC hL).1]
  obtain ⟨_, _, _, _, k5, _⟩ := RC hg hs (by have := Eg hs; omega) a1 hbT
  have := ha _ (vT hT hs) (ARF hg hs hL a1 hsm hbT)
  rw [<- hlT, k5, show (AV N T).nR = N.r.length from rfl, fE hs] at this
  exact this
end Go.Bal
