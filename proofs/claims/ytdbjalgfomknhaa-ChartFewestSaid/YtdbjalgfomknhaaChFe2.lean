/- Law ChartFewest: what Stops, Pairs and Agrees return (no program in sight). -/
import Derived.Test.YtdbjalgfomknhaaChFe0
import Derived.Test.YtdbjalgfomknhaaChKO
import Derived.Test.YtdbjalgfomknhaaChL
import Derived.Test.YtdbjalgfomknhaaChP
set_option linter.unusedVariables false
set_option linter.unusedSimpArgs false
namespace Go.Bal
open Go Go.Sym Go.Proofs
theorem AKQ {c : Cht} (h : ChOk c) (hs : ZC c = true) : ((HG (fwW c)).2 = true /\ RT c = ⟨(PS c).q, (PS c).r, 0⟩ /\ ∃ t, TrC c (WL ⟨c, (PS c).q⟩).sp t) ∨ (RT c = ⟨nilI, nilP, 6⟩ /\ ∀ sp t, ¬ TrC c sp t) := by
 cases k : (HG (fwW c)).2 with
 | true =>
  refine .inl ⟨rfl, by unfold RT fwO; rw [Zh.2 h, k]; rfl, ?_⟩
  exact ((AAF (w := fwW c) h).1 k).2
 | false =>
  refine .inr ⟨by unfold RT fwO; rw [Zh.2 h, k]; rfl, λ sp t ht => ?_⟩
  have := (AAF (w := fwW c) h).2 ⟨hs, BMM h ht⟩
  rw [k] at this; cases this
theorem ANC {c : Cht} (h : ChOk c) (hs : ZC c = true) {z : List Int} (hz : okZ ⟨c, z⟩ = true) : (mK (EE ⟨c, z⟩)).2 = 0 /\ ((mK (EE ⟨c, z⟩)).1 = true ↔ ∃ t, TrC c (WL ⟨c, z⟩).sp t) := by
 have e : EE ⟨c, z⟩ = bif (HG (WL ⟨c, z⟩)).2 then 0 else 6 := by
  unfold EE; rw [hz, show BF (CZ.mk c z).c = 0 from Zh.2 h]; rfl
 rw [e]
 have T := AAF (w := WL ⟨c, z⟩) h
 cases k : (HG (WL ⟨c, z⟩)).2 with
 | true => exact ⟨rfl, λ _ => (T.1 k).2, λ _ => rfl⟩
 | false =>
  refine ⟨rfl, λ q => (by cases q), λ q => ?_⟩
  have := T.2 ⟨hs, q⟩
  rw [k] at this; cases this
theorem BDL {c : Cht} (h : ChOk c) (hs : ZC c = true) {z : List Int} (hz : okZ ⟨c, z⟩ = true) (ha : (mK (EE ⟨c, z⟩)).1 = true) : (PS c).q.length <= z.length := by
 obtain ⟨t, ht⟩ := (ANC h hs hz).2.1 ha
 exact BSA h ht λ g hg => (AXG (a := ⟨c, z⟩) h.m hz g).1 hg
end Go.Bal

namespace Go.Bal
open Go Go.Sym Go.Proofs
theorem O5 {x : Prv} (h : ChOk x.c) (hl : x.l.length <= 40) (hp : ∀ p ∈ x.l, OS x.c p = true) : QY x = (pvK x x.l.length && decide ((x.l.length : Int) >= x.m), 0) := by
 unfold QY Fl
 rw [Zh.2 h, decide_eq_false (show ¬ (x.l.length : Int) > 40 by omega), List.all_eq_true.2 hp]; rfl
theorem BNC {x : Prv} (h : ChOk x.c) (hl : x.l.length <= 40) (hp : ∀ p ∈ x.l, OS x.c p = true) {z : List Int} {sp : Nat -> Bool} {t : Nat -> Int} (ht : TrC x.c sp t) (hz : ∀ g : Nat, sp g = true -> (g : Int) ∈ z) (hv : (QY x).1 = true) : x.m <= z.length := by
 rw [O5 h hl hp] at hv
 have hv : (pvK x x.l.length && decide ((x.l.length : Int) >= x.m)) = true := hv
 rw [Bool.and_eq_true, decide_eq_true_eq] at hv
 have q := BAC h hp ht hz x.l.length (Nat.le_refl _) hv.1
 have := List.length_filter_le (λ y => decide (0 <= y) && mtF x x.l.length y.toNat) z
 omega
theorem CDV {c : Cht} {p : Pr} (h : ChOk c) (hp : OS c p = true) (hl : XN c p = true) : latV ⟨c, p⟩ = (true, 0) := by
 unfold latV latO
 rw [show BF (CP.mk c p).c = 0 from Zh.2 h, show OS (CP.mk c p).c (CP.mk c p).p = true from hp, show XN (CP.mk c p).c (CP.mk c p).p = true from hl]; rfl
def apR (c : Cht) (a b : Pr) : Prop := (nB c a).mi <= (nA c b).mi ∨ (nB c b).mi <= (nA c a).mi
theorem tB {c : Cht} (h : ChOk c) (m : Int) {l : List Pr} (hp : l.Perm (PS c).r) : (∀ p ∈ l, OS c p = true /\ XN c p = true) /\ pvK ⟨c, m, l⟩ l.length = true := by
 have I := BIL h c.ns.length (Nat.le_refl _)
 have ok : ∀ p ∈ l, OS c p = true /\ XN c p = true := λ p hq => (I.ok p (hp.mem_iff.1 hq)).1
 have dis : l.Pairwise (apR c) := (List.Perm.pairwise_iff (R := apR c) (λ {a b} q => q.symm) hp).2 (I.dis.imp λ q => .inl q)
 refine ⟨ok, (BMZ (x := ⟨c, m, l⟩) l.length λ k hk => ?_).2 ⟨λ k hk => (ok _ (HP hk)).2, λ j k hjk hk i hi => ?_⟩⟩
 ·have q := ok (gD l k) (HP hk)
  exact (BON h q.1 q.2).1.1
 ·have e : apR c (gD l j) (gD l k) := by
   rw [List.pairwise_iff_getElem] at dis
   have := dis j k (by omega) hk hjk
   rw [show gD l j = l[j]'(by omega) by simp [gD, List.getD_eq_getElem?_getD, show j < l.length by omega], show gD l k = l[k]'hk by simp [gD, List.getD_eq_getElem?_getD, hk]]; exact this
  obtain ⟨⟨i1, i2⟩, i3, i4⟩ := hi
  have i1 : (nA c (gD l j)).mi <= i := i1
  have i2 : (i : Int) < (nB c (gD l j)).mi := i2
  have i3 : (nA c (gD l k)).mi <= i := i3
  have i4 : (i : Int) < (nB c (gD l k)).mi := i4
  rcases e with e | e <;> omega
end Go.Bal

namespace Go.Bal
open Go Go.Sym Go.Proofs
structure CT where
 c : Cht
 t : Tru
def hd1 (x : CT) (i : Nat) : Bool := Fw (gD x.t.t i) (gD (vB x.c) i).lo (gD (vB x.c) i).hi && Fw (gD x.t.s i) (Zi x.c i).lo (Zi x.c i).hi
end Go.Bal



namespace Go.Bal
open Go Go.Sym Go.Proofs
def rwI (l : List Int) : HCell := .live (.row 1 l.length λ i => TZ (gD l i))
def BXK : Ann := { ann 7 [] with mt := λ id => id == 2 }
def CHQ (l : List Int) : Prop := DN Try.prog BXK AOA (AP AOA) [.d (GQ l)] (AH []) (.own 0 1 0 l.length) [(0, rwI l)] [(0, 3032)] []
theorem CKL (l : List Int) : (CHQ l) = (ADJ (Kr Ar (And FO (LU 0 l TB)) (Hv (LJ (DX l))) (YN (DX l) 9223372036854775807) (Ze (BH (DX l)) 8)) AJ (GU l (BH (DX l))) (AK (λ i=>PL i l l (NR i 0)))) := by kernel_rfl
def CAY (_x : One) : Prop := DN Try.prog (ann 7 []) AOA (AP AOA) [.d (GQ nilI)] (AH []) (.d UJ) [] [] []
theorem CCU (_x : One) : (CAY _x) = (Fp (Kr Ar (Pu TB) (Hc (LJ 0)) (GM 0 9223372036854775807) 0) AJ) := by kernel_rfl
structure CI where
 l : List Int
 e : Bool
def dCI : List AVal -> Heap -> Option (CI × List (Nat × Nat) × List Nat)
 | [.d (.list _ n g _)], _ => match Nat.beq n 0 with
  | true => some (⟨nilI, true⟩, [], [])
  | false => some (⟨HX n λ i => JQ (g i), false⟩, [], [])
 | _, _ => none
def C_cpX : Ctr := { α := CI, xs := λ a => [bif a.e then .d (GQ nilI) else .d (GQ a.l)], val := λ a => bif a.e then .d UJ else .own 0 1 0 a.l.length, keep := λ a => bif a.e then [] else [(0, rwI a.l)], pre := λ a => [bif a.e then True else (0 < a.l.length /\ a.l.length < 1073741824)] }
theorem BNJ : AR Try.prog BHW (C_cpX.spec dCI) := okT C_cpX (λ (a : CI) h => by
 obtain ⟨l, e⟩ := a
 cases e with
 | true => exact Su (A := ann 7 []) (xs := [.d (GQ nilI)]) (L := []) (keep := []) (ren := []) (fz := []) BIJ (by kernel_rfl) AL (by
   show CAY default; rw [CCU]<;> delta MF Sw CL CA DD GM FO PB AI AN BK Fp BV AJ GX KQ LJ YR Kr MW Hc Pj Pu TB Ar; simp only [CC, eq_self, implies_true, forall_const]
   refine ⟨?_, ?_, ?_, ?_⟩ <;> simp)
 | false =>
  obtain ⟨h1, h2⟩ : 0 < l.length /\ l.length < 1073741824 := h
  exact Su (A := BXK) (xs := [.d (GQ l)]) (L := []) (keep := [(0, rwI l)]) (ren := [(0, 3032)]) (fz := []) BIJ (by kernel_rfl) AL (by
   show CHQ l; rw [CKL]<;> delta MF CL AK CA DD AU GM NR FO PB ZA DX DE Ze AI AN BK BV ED ADJ LU GU AJ BH PP QC NG PL LJ GP YR Kr MW YN Hv Pj Pu TB Ar; simp only [CC, eq_self, implies_true, forall_const]
   exact ⟨⟨by omega, h1, by omega, by omega⟩, λ _ _ => rfl⟩)) _
end Go.Bal

namespace Go.Bal
open Go Go.Sym Go.Proofs
def C_StopsT : Ctr := { C_Stops with val := λ (c : Cht) => .tup [.d (GQ (PS c).q), .int 0], pre := λ (c : Cht) => [((c.ms.length < 4611686018427387904 /\ c.ns.length < 4611686018427387904) /\ (BF c = 0 -> c.ns.length <= 12)) /\ (RT c).q = (PS c).q /\ (RT c).e = 0] }
def BLG (c : Cht) : Prop := DN Try.prog Py sM (AP sM) [.d (Rc c)] (AH []) (C_StopsT.val c) [] [] []
theorem BSE (c : Cht) : (BLG c) = (BQ (NP c c c c (Cb (IG c) c)) (EM (Bl c) (jB c)) (GB (Bl c) (jB c)) (AU 0 (ZD (CV c)))) := by kernel_rfl
def C_StopsN : Ctr := { C_Stops with val := λ (c : Cht) => .tup [.d (GQ nilI), .int (RT c).e], pre := λ (c : Cht) => [((c.ms.length < 4611686018427387904 /\ c.ns.length < 4611686018427387904) /\ (BF c = 0 -> c.ns.length <= 12)) /\ (RT c).q = []] }
def BJC (c : Cht) : Prop := DN Try.prog Py sM (AP sM) [.d (Rc c)] (AH []) (C_StopsN.val c) [] [] []
abbrev Wk:=nilI
attribute [go_sem] Wk
theorem BSH (c : Cht) : (BJC c) = (BQ (NP c c c c (Cb (IG c) c)) (Oo (DX (jB c))) (AK (λ i=>BK i 0 (AU (DE Wk i) (DE (jB c) i)))) (AU (ZD c) (ZD (CV c)))) := by kernel_rfl
def C_PairsN : Ctr := { C_Pairs with val := λ (c : Cht) => .tup [.d (Wt nilP), .int (RT c).e], pre := λ (c : Cht) => [((c.ms.length < 4611686018427387904 /\ c.ns.length < 4611686018427387904) /\ (BF c = 0 -> c.ns.length <= 12)) /\ (RT c).r = []] }
def BKQ (c : Cht) : Prop := DN Try.prog Py sB (AP sB) [.d (Rc c)] (AH []) (C_PairsN.val c) [] [] []
abbrev Jc:=nilP
attribute [go_sem] Jc
theorem BSW (c : Cht) : (BKQ c) = (BQ (NP c c c c (Cb (IG c) c)) (Oo (LH (kU c))) (OJ 0 Jc (kU c)) (AU (ZD c) (ZD (CV c)))) := by kernel_rfl
structure PvL where
 x : Prv
 o : Bool
def dPvL : List AVal -> Heap -> Option (PvL × List (Nat × Nat) × List Nat)
 | [x, .d (.v (.int _ m)), .own id _ _ n], H => match AVK x H, H id with
  | some (c, f), .live (.row _ _ r) => some (⟨⟨c, m, HX n λ i => dPr (r i)⟩, true⟩, [(100, id)], f)
  | _, _ => none
 | [x, .d (.v (.int _ m)), .d (.list _ n r _)], H => match AVK x H with
  | some (c, f) => some (⟨⟨c, m, HX n λ i => dPr (r i)⟩, false⟩, [], f)
  | none => none
 | _, _ => none
def AWD (l : List Pr) : AObj := .row 2 l.length λ i => ePr (gD l i)
def C_provL : Ctr := { ro := [100], α := PvL, xs := λ a => [.d (Rc a.x.c), .int a.x.m, bif a.o then .own 100 2 0 a.x.l.length else .d (Wt a.x.l)], L := λ a => bif a.o then [(100, AWD a.x.l)] else [], val := λ a => .tup [.bool (QY a.x).1, .int (QY a.x).2], keep := λ a => bif a.o then [(100, .live (AWD a.x.l))] else [], pre := λ a => [a.x.c.ms.length < 4611686018427387904 /\ a.x.c.ns.length < 4611686018427387904 /\ a.x.l.length < 4611686018427387904] }
theorem BRZ : AR Try.prog AEO (C_StopsT.spec dC1) := Jp C_StopsT (λ _ => Py) [] [] BAY (λ _ => by kernel_rfl) (λ _ => AC AYI AL) (λ (c : Cht) h => by
 obtain ⟨h1, h2, h3⟩ : ((c.ms.length < 4611686018427387904 /\ c.ns.length < 4611686018427387904) /\ (BF c = 0 -> c.ns.length <= 12)) /\ (RT c).q = (PS c).q /\ (RT c).e = 0 := h
 show BLG c; rw [BSE]<;> delta BU CO FM FQ FP CL AK CA DD AU GM IV HC HA HZ ID IA JD GN FW FY Ea DX DE Sh Ir AI BG DV EN GF AN BO BK CG BJ BB BY AO AM HS FZ BL CS GS CD IW CJ CX DM Bl AZ CR CY DP EU CV DH BA AW DQ GJ EA LU EI DG BD EJ FU GU BE EH ER EM GC HI EF GI DS FH GR JG HR PP FI FT JU QC IR ZD GD JH BQ NG DK DO BR DF IL IP IS IM JZ PL QX CH ME PN BP GB IG NV XW Ig ZQ UT XM NP Cb jB; simp only [CC, eq_self, implies_true, forall_const, EB]; rw [h2, h3]; exact ⟨h1, rfl, λ _ _ => rfl, rfl⟩) (λ _ => Mi rfl rfl) _
theorem BDY : AR Try.prog AEO (C_StopsN.spec dC1) := Jp C_StopsN (λ _ => Py) [] [] BAY (λ _ => by kernel_rfl) (λ _ => AC AYI AL) (λ (c : Cht) h => by
 obtain ⟨h1, h2⟩ : ((c.ms.length < 4611686018427387904 /\ c.ns.length < 4611686018427387904) /\ (BF c = 0 -> c.ns.length <= 12)) /\ (RT c).q = [] := h
 show BJC c; rw [BSH]<;> delta BU CO FM FQ FP CL AK CA DD AU GM IV HC HA HZ ID IA JD GN FW FY Ea DX DE Sh Ir Wk AI BG DV EN GF AN BO BK CG BJ BB BY AO AM HS FZ BL CS GS CD IW CJ CX DM AZ CR CY DP EU CV DH BA AW DQ GJ EA EI DG BD EJ FU BE EH ER GC HI EF GI DS FH GR JG HR FI FT JU IR ZD GD JH BQ DK DO BR DF IL IP IS IM JZ CH ME PN BP IG NV XW Ig ZQ UT Oo XM NP Cb jB; simp only [CC, eq_self, implies_true, forall_const, EB]; rw [h2]; exact ⟨h1, rfl, λ i hi => absurd hi (Nat.not_lt_zero _)⟩) (λ _ => Mi rfl rfl) _
theorem BES : AR Try.prog AGI (C_PairsN.spec dC1) := Jp C_PairsN (λ _ => Py) [] [] AYO (λ _ => by kernel_rfl) (λ _ => AC AYI AL) (λ (c : Cht) h => by
 obtain ⟨h1, h2⟩ : ((c.ms.length < 4611686018427387904 /\ c.ns.length < 4611686018427387904) /\ (BF c = 0 -> c.ns.length <= 12)) /\ (RT c).r = [] := h
 show BKQ c; rw [BSW]<;> delta BU CO FM FQ FP CL AK CA DD AU GM IV HC HA HZ ID IA JD GN FW FY Ea LH Fm gV Ir Jc AI BG DV EN GF AN BO BK CG BJ BB BY AO AM HS FZ BL CS GS CD IW CJ CX DM AZ CR CY DP EU CV DH BA AW DQ GJ EA EI DG BD EJ FU BE EH ER XX GC HI EF VJ GI DS FH GR JG HR FI FT JU IR ZD GD JH BQ DK DO BR DF IL IP IS IM JZ CH ME ON Ge PN Pf BP Ou OJ IG NV XW Ig ZQ UT Oo XM NP Cb kU; simp only [CC, eq_self, implies_true, forall_const, EB]; rw [h2]; exact ⟨h1, rfl, λ i hi => absurd hi (Nat.not_lt_zero _)⟩) (λ _ => Mi rfl rfl) _
theorem CIC (x : Prv) (h1 : x.c.ms.length < 4611686018427387904 /\ x.c.ns.length < 4611686018427387904 /\ x.l.length < 4611686018427387904) : FnT Try.prog mH (xPrv x) (AH []) (C_prov.val x) [] := by
 by_cases h0 : BF x.c = 0
 ·have e : C_prov.val x = .tup [.bool (Fl x).1, .int (Fl x).2] := by
   show AVal.tup [.bool (QY x).1, .int (QY x).2] = _
   unfold QY; rw [h0]; rfl
  rw [e]
  exact Su (A := BOA x) (L := []) (keep := []) (ren := []) (fz := []) ADU (by kernel_rfl) (AC eS (AC CFC (AC ANG AL))) (CAW x h1 h0)
 ·have h0' : (BF x.c == 0) = false := by simpa using h0
  have e : C_prov.val x = .tup [.bool false, .int (BF x.c)] := by
   show AVal.tup [.bool (QY x).1, .int (QY x).2] = _
   unfold QY; rw [h0']; rfl
  rw [e]
  refine Su (A := BGF) (L := []) (keep := []) (ren := []) (fz := []) ADU (by kernel_rfl) (AC oE AL) ?_
  show BII x; rw [BLJ]<;> delta MF Sw BU CO FM FQ FP CL AK CA DD AU BW FX IV HC HA HZ ID IA JD GN FW FY Sb Ea WW JY LH uZ AI BG DV EN GF AN BO BK CG BJ BB BY AO AM HS FZ BL ED CS GS CD IW CJ CX DM AZ CR CY DP EU CV DH BA AW DQ GJ EA EI DG BD EJ FU BE EH ER GC HI EF GI DS FH GR JG HR FI FT JU IR GD JH DO BR DF IL IP IS IM JZ CH ME PN BP EX IG NV PK JL XW XZ OY UT TI XM NP Jq; simp only [CC, eq_self, implies_true, forall_const, EB]
  simp [h1, h0]
theorem BBH : AR Try.prog mH (C_provL.spec dPvL) := okT C_provL (λ (a : PvL) h => by
 have h1 : a.x.c.ms.length < 4611686018427387904 /\ a.x.c.ns.length < 4611686018427387904 /\ a.x.l.length < 4611686018427387904 := h
 obtain ⟨x, o⟩ := a
 have hf := CIC x h1
 cases o with
 | false => exact hf
 | true =>
  refine FnT.lend (fz := [100]) (xs := [.d (Rc x.c), .int x.m, .own 100 2 0 x.l.length]) (L := [(100, AWD x.l)]) hf rfl ?_ rfl ?_ _ ?_
  ·show [_, _, AVal.d (.list 2 x.l.length (λ j => ePr (gD x.l (0 + j))) false)] = _
   simp only [Nat.zero_add]; rfl
  ·show 0 + x.l.length <= x.l.length; omega
  ·exact ⟨rfl, trivial⟩) _
end Go.Bal
