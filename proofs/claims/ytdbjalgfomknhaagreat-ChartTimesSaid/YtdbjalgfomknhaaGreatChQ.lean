/- Package chart: Truths (a truth in which a mark has a time). -/
import Derived.Test.YtdbjalgfomknhaaGreatChQ0
import Derived.Test.YtdbjalgfomknhaaGreatChT4
import Derived.Test.YtdbjalgfomknhaaGreatChT6
set_option linter.unusedVariables false
set_option linter.unusedSimpArgs false
namespace Go.Bal
open Go Go.Sym Go.Proofs
structure TrI where
 a : CZ
 m : Int
 t : Int
def dTrI : List AVal -> Heap -> Option (TrI × List (Nat × Nat) × List Nat)
 | [x, y, .d m, .d t], H => match nM x H, fM y H with
  | some (c, g), some (l, e) => some (⟨⟨c, l⟩, HK m, HK t⟩, [], g ++ e)
  | _, _ => none
 | _, _ => none
def xTrI (x : TrI) : List AVal := [.d (Dj x.a.c), .d (DV x.a.z), .int x.m, .int x.t]
def nlL (a : CZ) : List Span := OH (CV a) (XD a.c)
def aS (x : TrI) : List Span := IK (nlL x.a).length λ i => bif decide (i = x.m.toNat) then bK (gD (nlL x.a) x.m.toNat) ⟨x.t, x.t⟩ else gD (nlL x.a) i
def cZ (x : TrI) : List Span := OH (CV x.a) (aS x)
def trT (x : TrI) : Nat -> Int
 | 0 => (gD (cZ x) 0).lo
 | g + 1 => PD (gD (cZ x) (g + 1)).lo (wr (trT x g + (HR (CV x.a) g).lo))
def trS (x : TrI) (i : Nat) : Int := (Dv x.a.c (i : Int)).lo
def AOY (x : TrI) : Prop := (x.a.c.ms.length < 4611686018427387904 /\ x.a.c.ns.length < 4611686018427387904 /\ x.a.z.length < 4611686018427387904) /\ CF x.a = 0 /\ 0 <= x.m /\ x.m < x.a.c.ms.length
def dU (x : TrI) : Tru := ⟨IK x.a.c.ms.length (trT x), IK x.a.c.ms.length (trS x), x.a.z⟩
def C_TruD : Ctr := { α := TrI, xs := xTrI, val := λ x => .tup [.d (eTru (dU x)), .int 0], keep := λ _ => [], pre := λ x => [AOY x /\ (cZ x).all Du = true] }
def vK : Tru := ⟨[], [], []⟩
def C_TruX : Ctr := { α := TrI, xs := xTrI, val := λ x => .tup [.d (eTru vK), .int 5], keep := λ _ => [], pre := λ x => [AOY x /\ (cZ x).all Du = false] }
def trH (x : TrI) : List (Nat × HCell) := [(1016, .live (.box [.d Jn, .d Jn, .d Jn])), (2096, .live (.box [.bptr 2032 0])), (2032, .live (dkB (CV x.a) 2033)), (2033, .live (dkM (CV x.a))), (7080, .live (.box [.d (DE (cZ x))]))]
def trH0 (x : TrI) (l : List Span) : List (Nat × HCell) := [(1016, .live (.box [.d Jn, .d Jn, .d Jn])), (2096, .live (.box [.bptr 2032 0])), (2032, .live (dkB (CV x.a) 2033)), (2033, .live (dkM (CV x.a))), (7016, .live (rowS l)), (7080, .live (.box [.own 7016 2 0 l.length]))]
def tr7 (x : TrI) : Shape := { α := One, dflt := default, T := λ _ => ⟨[(1, .d (DV x.a.z)), (2, .int x.m), (3, .int x.t), (8, .bptr 1016 0), (10, .bptr 2096 0), (12, .bptr 7080 0), (13, .bool ((nlL x.a).all Du))], trH0 x (nlL x.a)⟩, inv := λ _ => True, meas := λ _ => 0 }
def tr10 (x : TrI) : Shape := { α := One, dflt := default, T := λ _ => ⟨[(1, .d (DV x.a.z)), (8, .bptr 1016 0), (10, .bptr 2096 0), (12, .bptr 7080 0)], trH0 x (aS x)⟩, inv := λ _ => True, meas := λ _ => 0 }
def tr13 (x : TrI) : Shape := { α := One, dflt := default, T := λ _ => ⟨[(1, .d (DV x.a.z)), (8, .bptr 1016 0), (10, .bptr 2096 0), (12, .bptr 7080 0)], trH x⟩, inv := λ _ => True, meas := λ _ => 0 }
def tr1 (x : TrI) (l : Nat) : Shape := { α := Nat, dflt := 0, T := λ k => ⟨[(0, .fn (.yield l) [] []), (1, .bptr 15016 0), (12, .int (wr ((x.a.c.ms.length : Int) - 1))), (13, .int k)], trH x ++ [(14192, .live (.box [.own 301 1 0 (k + 1), .own 302 1 0 (k + 1), .d (DV x.a.z)])), (301, .live (.row 1 (k + 1) λ i => TT (trT x i))), (302, .live (.row 1 (k + 1) λ i => TT (trS x i))), (15016, .live (.box [.bptr 2032 0]))]⟩, inv := λ k => k <= x.a.c.ms.length - 1, meas := λ k => 50 - k, first := [(301, 14064), (302, 14128)], again := [(301, 18288), (302, 19128)] }
noncomputable def itTr (x : TrI) : IterAnn := { fn := Un, code := AH Un, live := [8, 10, 12, 14], ann := { base := λ id => 100000 + 1000 * (id + 1), Γ := Sym.look [], E := [1016, 2096, 2032, 2033, 7080, 14192, 15016], n := 66, inner := λ gs id => if id = 1 then some [tr1 x (gs.getD 0 0)] else none } }
noncomputable def BQH (x : TrI) : Ann := { ann 113 [(Jy, C_beg.spec pZ), (sA, vS), (Up, C_timO.spec Ze), (fK, C_com.spec AOC), (YX, C_nar.spec dDkS), (nF, C_stg.spec dDkI), (yV, C_clI.spec dIs1), (H3, C_gaps.spec Ze)] with mt := λ id => id == 17 || id == 18, iter := λ g => if g = Kn then some (itTr x) else none, cut := λ id => if id = 7 then some [tr7 x] else if id = 10 then some [tr10 x] else if id = 13 then some [tr13 x] else none }
def AZN (x : TrI) : Prop := CH Try.prog (BQH x) Ky (AH Ky) (xTrI x) (AB []) (C_TruD.val x) [] [] [301, 302]
abbrev NK:=TrI.a
abbrev Mw:=TrI.m
abbrev mO:=TrI.t
abbrev Ad:=aS
abbrev lS a:=Tru.z (dU a)
abbrev lA a:=Tru.s (dU a)
abbrev nJ a:=Tru.t (dU a)
abbrev QE a:=DO (NK a)
abbrev AW a:=JA (NK a)
abbrev iO a:=iZ (NK a)
abbrev UI a:=RV (NK a)
abbrev Pb a:=GJ (UI a)
abbrev iW a:=LQ (UI a)
abbrev Hn a:=AS (AW a)
abbrev Br a:=AP (AW a)
abbrev Bw a:=AQ (AW a)
abbrev gW a:=AV (AW a)
abbrev iI a:=AT (AW a)
abbrev LD a:=nlL (NK a)
abbrev Hi a:=Bb (Cm (mO a) (mO a))
abbrev Pa a:=UU (Mw a)
abbrev AHL a b:=LX (QE a) (QE b)
abbrev EQ a:=tF (AHL a a) (NK a)
abbrev iK a:=bV (EQ a)
abbrev Zn a:=AHL a a
abbrev De a:=kA (Zn a) (NK a)
attribute [go_sem] NK Mw mO Ad lS lA nJ QE AW iO UI Pb iW Hn Br Bw gW iI LD Hi Pa AHL EQ iK Zn De
theorem BMB (x : TrI) : (AZN x) = (SK (QS (QE x) (VG (QE x) (BO (QE x)) (BL (QE x)) (BE (QE x)) (NK x) (WF (DQ (QE x)) (QE x) (NK x)) (KP (Zn x)))) (RX (XB (Zn x) (NK x))) (QF (Aq (nJ x)) (sK (Aq (lA x)) (Aq (lS x)) (AR 0 (RX (XB (Zn x) (NK x)))))) (EK (WH (Mw x) (Fv (QE x))) (QF (Aq (nJ x)) (sK (Aq (lA x)) (Aq (lS x)) (AR ML (SC 2)))) (PO (And (EW (AQ (EQ x)) (AT (EQ x)) (AP (EQ x)) (AS (EQ x)) (AV (EQ x)) (NX (EQ x) (De x) (MJ (HL (EQ x)) (AQ (EQ x)) (EQ x) (AP (EQ x)) (AS (EQ x)) (CQ (EQ x)) (DN (EQ x)) (OG (EQ x) (De x) (AE (QP (EQ x)) (NQ (EQ x)) (EU (λ i=>Cx (TL (EQ x) i) i (EQ x)))) (CK (Mr (DK (EQ x)))))))) (HI (AF (iO x) (AD (λ i=>Kd i (NK x) i)) (AG (Mw x)) (AG (mO x)) (Io (Hh (UY (LD x)) (Lc (EQ x) (De x) (iK x))) FW (Cc (TH (AW x) (EQ x)) (AF (UC (AW x) (EQ x)) (TU (AW x) (EQ x)) (UB (AW x) (EQ x)) (TC (AW x) (EQ x)) (Gx (TQ (AW x) (EQ x)) (λ i=>UA i (AW x) (EQ x) i i) (UK (AW x) (EQ x)) (λ i=>DW i (AW x) (TM (AW x) i (EQ x) i i i i)) (AD (λ i=>ZA i (UI x) i (JO (De x) i))) BT (λ i=>TW (AW x) i (EQ x) i) (λ i=>UF (UI x) i (De x) i) (mI (EU (λ i=>TR (AW x) i (EQ x) i i i)) (II (LD x) (Lc (EQ x) (De x) (iK x))) (JQ (LD x) (Lc (EQ x) (De x) (iK x))) AI)))))))) (EK (not (UY (LD x))) (QF (Aq (nJ x)) (sK (Aq (lA x)) (Aq (lS x)) (AR ML (SC 6)))) (PO (And (And (WB (Mw x) (LD x)) (AK (bF (Pa x) (LD x)) (Ct (LD x) (Pa x)) (AZ (GK (LD x) (Pa x))) (JU (Hi x) 1) MG (AD (λ i=>JY i (Hi x) (BP (GK (Hi x) i) (mO x)) (AY (GK (Hi x) i) (mO x)))) GF (WB (Mw x) (LD x)) (NW (Mw x) (ED (LD x))))) (HI (And (iO x) (Io (AD (λ i=>Kd i (NK x) i)) FW (Cc (Bw x) (AF (iI x) (Br x) (Hn x) (gW x) (TG (AW x) (UI x) (mI (KQ (AW x)) (II (Ad x) (LD x)) (AD (λ i=>JY i (Ad x) (BP (GK (Ad x) i) (JJ i (Mw x) (BG (Ps (GK (LD x) (Pa x)) (Hi x))) (PT (LD x) i))) (AY (GK (Ad x) i) (JJ i (Mw x) (BJ (Ps (GK (LD x) (Pa x)) (Hi x))) (RN (LD x) i))))) AI)))))))) (PO (HG (And (JG (Ad x)) (DC (LC (ED (Ad x))) (λ i=>PN i (IP (Ad x)) (Ad x) (BV i)) (Bw x) (iI x) (Br x) (Hn x) (gW x) (BO (AW x)) (WY (AW x) (iW x) (Pb x) (Bz (Bw x) (AW x) (Br x) (AW x) (CQ (AW x)) (λ i=>DG i (AW x)) (DH (AW x)) (QN (AW x) (λ i=>KZ i (UI x)) BT (JI (AW x)) (Pb x) (JK (AW x)) (LM (NG (Ad x)) (AW x)) (QP (AW x)) (NQ (AW x))))))) (not (UY (XT (AW x) (UI x) (Ad x)))) (QF (Aq (nJ x)) (sK (Aq (lA x)) (Aq (lS x)) (AR ML (SC 5)))) (HI (AO (iO x) (AD (λ i=>Kd i (NK x) i)) AI (Gb FW AI (MJ FW (Bw x) (AW x) (Br x) (Hn x) (BX (AW x)) (JS (AW x)) (WZ (CG (AW x)) (λ i=>BK i (AW x)) (UI x) (Jx (AW x)) (λ i=>JF (AW x) i) (II (cZ x) (XT (AW x) (UI x) (Ad x))) (JQ (cZ x) (XT (AW x) (UI x) (Ad x))))))))) (IG (And (Dg (ED (cZ x))) (MJ (Np 0) (Bw x) (AW x) (Br x) (Hn x) (BO (AW x)) (BL (AW x)) (WZ (BE (AW x)) (λ i=>CS i (AW x)) (UI x) (PE (AW x)) (λ i=>TN (AW x) i) (Bw x) (MX (AW x) (Br x) (Hn x) (CQ (AW x)) (DN (AW x)) (DH (AW x)) (RC (AW x)) (AK (iW x) BT (JI (AW x)) (Pb x) (JK (AW x)) (Dg (DQ (AW x))) (OY (NK x)) (AD (λ i=>PC i (NK x))) (vG (PF (NK x)) 1000000)))))) (AO (Bw x) (iI x) (Br x) (NZ (Hn x) (gW x) (BO (AW x)) (BL (AW x)) (BE (AW x)) (BI (AW x)) (λ i=>KZ i (UI x)) (HT (PE (AW x)) (Pb x) (HL (AW x)) (AW x) (MC (CQ (AW x)) (λ i=>DG i (AW x)) (DH (AW x)) (λ i=>DI i (AW x)) (UI x) (λ i=>QG (AW x) i) (JK (AW x)))))) (λ i=>DP (λ j=>And (AE (SA i) (AR (Hf (QE x)) (Fv (AW x))) (Io (BR j) FW (Cc (Bw x) (MX (AW x) (Br x) (Hn x) (BX (AW x)) (JS (AW x)) (CG (AW x)) (HE (AW x)) (CM (iW x) BT (Jx (AW x)) (Pb x) (KQ (AW x)) (KC (cZ x)) (λ k=>Ba k (cZ x)) AI (lX (JD (DF j)) (CB (LY (NK x)) (PF (NK x))) (yT (AD (λ k=>MB k (LY (NK x)) (SX (NK x) k) (FK (PF (NK x)) k))) (JD (DF j)) (AD (λ k=>AU k (DF j) (AR (trT x k) (PT (cZ x) RI)))) (AD (λ k=>AU k (DF j) (AR (trS x k) (BG (Yd (AW x))))))))))))) (Oz j (QE x))) (λ j=>BU (Oz j (QE x)) (TJ (HB j (Hf (QE x))) (YT (DS j) (AW x) (BZ j)) (Oc j) (Il j) (APA (JO (UI x) j) (AO (BC i) (FX (WB (DS j) (cZ x)) (FR j (DF j)) (CL (BV j) (DF j)) (Rw (BC (DF j)) (DF j)) (Rw MG 1) TI (TX (DF j)) (PM (Hd (DF j) 8))) (AE (AG (DS j)) (Bw x) (MX (AW x) (Br x) (Hn x) (BO (AW x)) (BL (AW x)) (BE (AW x)) (BI (AW x)) (AK (iW x) BT (PE (AW x)) (Pb x) (HL (AW x)) (Bw x) (iI x) (Br x) (NZ (Hn x) (gW x) (CQ (AW x)) (DN (AW x)) (DH (AW x)) (RC (AW x)) (λ k=>KZ k (UI x)) (AK (JI (AW x)) (Pb x) (JK (AW x)) (CD (DS j) (DQ (AW x))) (Rw (BC (DF j)) (DF j)) (Rw MG 1) TI (TX (DF j)) (PM (Hd (DF j) 8))))))) (GN (λ k=>WI (Cj (SA i) (Hf (QE x)) (Io (BD k j) FW (Cc (Bw x) (MX (AW x) (Br x) (Hn x) (BX (AW x)) (JS (AW x)) (CG (AW x)) (HE (AW x)) (CM (iW x) BT (Jx (AW x)) (Pb x) (KQ (AW x)) (KC (cZ x)) (λ l=>Ba l (cZ x)) AI (lX (PL (DF k) (DF j)) (iO x) (yT (AD (λ l=>Kd l (NK x) l)) (PL (DF k) (DF j)) (AD (λ l=>AU l (DF k) (AR (trT x l) (JP l (DF j) (trT x l) (Mv (PT (cZ x) (El j)) (nI (trT x (BV j)) (Dd (AW x)) (aI (AW x) (El j) (AW x) j))))))) (AD (λ l=>AU l (DF k) (AR (trS x l) (JP l (DF j) (trS x l) (BG (C5 (AW x) (DS j)))))))))))))) (Oz k (QE x)) k j)))) (AK (EN (nJ x) (DF j)) (LC (DF j)) (AD (λ k=>OB k (nJ x) (trT x (BV k)))) (EN (lA x) (DF j)) (LC (DF j)) (AD (λ k=>OB k (lA x) (trS x (BV k)))) (MY (lS x) (NK x)) (AD (λ k=>MV k (lS x) (NK x))) BQ))))))))))) := by kernel_rfl
def AZX (x : TrI) : Ann := { ann 113 [(Jy, C_beg.spec pZ), (sA, vS), (Up, C_timO.spec Ze), (fK, C_com.spec AOC), (YX, C_nar.spec dDkS)] with cut := λ id => if id = 7 then some [tr7 x] else if id = 10 then some [tr10 x] else if id = 13 then some [] else none }
def BHT (x : TrI) : Prop := CH Try.prog (AZX x) Ky (AH Ky) (xTrI x) (AB []) (C_TruX.val x) [] [] []
abbrev Db:=Ge 5
attribute [go_sem] Db
theorem BMZ (x : TrI) : (BHT x) = (SK (QS (QE x) (VG (QE x) (BO (QE x)) (BL (QE x)) (BE (QE x)) (NK x) (WF (DQ (QE x)) (QE x) (NK x)) (KP (Zn x)))) (RX (XB (Zn x) (NK x))) (Sf (Zz AI (AR 5 (RX (XB (Zn x) (NK x)))))) (EK (WH (Mw x) (Fv (QE x))) (Sf (Zz AI (AR (SC 5) (SC 2)))) (PO (And (EW (AQ (EQ x)) (AT (EQ x)) (AP (EQ x)) (AS (EQ x)) (AV (EQ x)) (NX (EQ x) (De x) (MJ (HL (EQ x)) (AQ (EQ x)) (EQ x) (AP (EQ x)) (AS (EQ x)) (CQ (EQ x)) (DN (EQ x)) (OG (EQ x) (De x) (AE (QP (EQ x)) (NQ (EQ x)) (EU (λ i=>Cx (TL (EQ x) i) i (EQ x)))) (CK (Mr (DK (EQ x)))))))) (HI (AF (iO x) (AD (λ i=>Kd i (NK x) i)) (AG (Mw x)) (AG (mO x)) (Io (Hh (UY (LD x)) (Lc (EQ x) (De x) (iK x))) FW (Cc (TH (AW x) (EQ x)) (AF (UC (AW x) (EQ x)) (TU (AW x) (EQ x)) (UB (AW x) (EQ x)) (TC (AW x) (EQ x)) (Gx (TQ (AW x) (EQ x)) (λ i=>UA i (AW x) (EQ x) i i) (UK (AW x) (EQ x)) (λ i=>DW i (AW x) (TM (AW x) i (EQ x) i i i i)) (AD (λ i=>ZA i (UI x) i (JO (De x) i))) BT (λ i=>TW (AW x) i (EQ x) i) (λ i=>UF (UI x) i (De x) i) (mI (EU (λ i=>TR (AW x) i (EQ x) i i i)) (II (LD x) (Lc (EQ x) (De x) (iK x))) (JQ (LD x) (Lc (EQ x) (De x) (iK x))) AI)))))))) (EK (not (UY (LD x))) (Sf (Zz AI (AR (SC 5) (SC 6)))) (PO (And (And (WB (Mw x) (LD x)) (AK (bF (Pa x) (LD x)) (Ct (LD x) (Pa x)) (AZ (GK (LD x) (Pa x))) (JU (Hi x) 1) MG (AD (λ i=>JY i (Hi x) (BP (GK (Hi x) i) (mO x)) (AY (GK (Hi x) i) (mO x)))) GF (WB (Mw x) (LD x)) (NW (Mw x) (ED (LD x))))) (HI (And (iO x) (Io (AD (λ i=>Kd i (NK x) i)) FW (Cc (Bw x) (AF (iI x) (Br x) (Hn x) (gW x) (TG (AW x) (UI x) (mI (KQ (AW x)) (II (Ad x) (LD x)) (AD (λ i=>JY i (Ad x) (BP (GK (Ad x) i) (JJ i (Mw x) (BG (Ps (GK (LD x) (Pa x)) (Hi x))) (PT (LD x) i))) (AY (GK (Ad x) i) (JJ i (Mw x) (BJ (Ps (GK (LD x) (Pa x)) (Hi x))) (RN (LD x) i))))) AI)))))))) (QQ (HG (And (JG (Ad x)) (DC (LC (ED (Ad x))) (λ i=>PN i (IP (Ad x)) (Ad x) (BV i)) (Bw x) (iI x) (Br x) (Hn x) (gW x) (BO (AW x)) (WY (AW x) (iW x) (Pb x) (Bz (Bw x) (AW x) (Br x) (AW x) (CQ (AW x)) (λ i=>DG i (AW x)) (DH (AW x)) (QN (AW x) (λ i=>KZ i (UI x)) BT (JI (AW x)) (Pb x) (JK (AW x)) (LM (NG (Ad x)) (AW x)) (QP (AW x)) (NQ (AW x))))))) (not (UY (XT (AW x) (UI x) (Ad x)))) (Sf (Zz AI Db)) JV))))))) := by kernel_rfl
theorem Ra {a : CZ} (h : CF a = 0) : AM a.c = 0 /\ rX a = true /\ ZV a.c = true /\ (nlL a).all Du = true /\ Uy a = nlL a := by
 obtain ⟨h1, h2, h3⟩ := Qs h
 unfold GD at h3
 cases hs : ZV (CV a).c with
 | false => rw [hs] at h3; cases h3
 | true =>
  rw [hs] at h3
  refine ⟨h1, h2, hs, h3, ?_⟩
  unfold Uy GD
  rw [hs]; rfl
theorem BCS : ∀ {z : List Int} {a b : Int}, z.Pairwise (· < ·) -> (∀ g ∈ z, a <= g /\ g < b) -> (z.length : Int) <= b - a ∨ z = []
 | [], _, _, _, _ => .inr rfl
 | g :: r, a, b, hp, hb => by
  rw [List.pairwise_cons] at hp
  have h0 := hb g (List.mem_cons_self ..)
  rcases BCS (a := g + 1) (b := b) hp.2 (λ x hx => by have := hp.1 x hx; have := hb x (List.mem_cons_of_mem _ hx); omega) with h | h
  ·left; rw [List.length_cons]; omega
  ·subst h; left; show ((1 : Nat) : Int) <= _; omega
theorem BOP (a s : Span) : comM ⟨a, IK 1 λ _ => s⟩ = bK a s := rfl
theorem dD (x : TrI) : (aS x).length = x.a.c.ms.length := by unfold aS nlL; rw [rng_length, Fz, IS]
theorem AAS (x : TrI) : (cZ x).length = x.a.c.ms.length := by unfold cZ; rw [Fz, dD]
theorem BSN (x : TrI) (h : AOY x) (hk : (cZ x).all Du = true) : AZN x := by
 obtain ⟨⟨l1, l2, l3⟩, hr, m1, m2⟩ := h
 obtain ⟨c0, zo, so, no, _⟩ := Ra hr
 have nl : (nlL x.a).length = x.a.c.ms.length := by unfold nlL; rw [Fz, IS]
 have tl1 := dD x
 have tl := AAS x
 obtain ⟨_, hm, _⟩ := IX c0
 have ni := (Qu c0).1
 have e0 : MO x.a = 0 := by unfold MO; rw [c0, zo]; rfl
 have ws : ∀ a : Nat, a <= 40 -> IntKind.i64.wrap ((a : Int) + 1) = ((a + 1 : Nat) : Int) := λ a h => HY (by omega)
 have wn : IntKind.i64.wrap ((x.a.c.ms.length : Int) - 1) = ((x.a.c.ms.length - 1 : Nat) : Int) := by rw [Bc (by omega) (by omega)]; omega
 have wn2 : wr ((x.a.c.ms.length : Int) - 1) = ((x.a.c.ms.length - 1 : Nat) : Int) := wn
 have lo : ∀ k, (HR (CV x.a) k).lo = IntKind.i64.wrap (x.a.c.p.lo * IntKind.i64.wrap ((gD x.a.c.ms (k + 1)).pl - (gD x.a.c.ms k).pl)) := λ _ => rfl
 rw [BMB]<;> delta KH ZR BG BJ EC MM NO Hc ES ET BW ED AD BU CL AR GK BZ SC DJ EK JH HO KB NL Mv LO EJ GW EX HP HN HJ GT GB HC DU GG FE JW GN IH Ef uS FP FK VV JL PW FY QC NJ NY EU MP KI YM AL JO Wj DO LY RX RV Ri Cm Rm Fx Mr En jV SW NK Mw mO Ad AE CR FA BB QE JA GA AF PX AY AU SX RA AG EM EZ APA BC FD mI Nc XG QF XA Gb sK yT AX FC BM CJ AK AN DD tA BH HX BY BP CX Bj HZ BN CY AW BS CE HQ QX FU AV DA AQ Jc EV DW AZ PF tF LX DQ CP FT AS OT ZW FS DM AP ID AT BV EG CN BX NE GI CM HD AHL CG IY GP GU OK EN DS DF FH HV AO AI DC Cn CK DT BT UR EL UU FV IP DK CD Zn NF EQ EP HW EO JY IV DB FN CB FM dC KZ XB UV KC HF VU PV TL JB ML Cs BD PH EA PG MB FQ PZ FR NG IW Y3 kA NH GJ LQ BE LI Mx DX FO FZ LL KL Ki NC JS GH SV JU BQ IC LM LB Ca YN OI Ct PI SY Bi dL EW El IQ HS HB BO EB DH CQ BK JF OB GY CS EE UI FI GF II TV KP BR BI KQ BL HE OF EY RZ DG Ba MC UL FW PN FX HM NB nI DP Jx PJ DI SE TD VI YU QQ LD MY MG PT UZ RI PM DN HI HG QK RN bV JP RC PE PR KO LC MV HT UM QG UG TN JQ HL JI VL JJ WA Jp SN WT JZ Cr Lb TK TG NW JD IG Bb QP Oz JK RS SP SA Lx Lc PL Dd NQ ZI JG OY PC NU aI VB iZ UY WF Sv PO XI Ao Gl De Bz Br TO WB Hd Dg Bw TI XR Aq Ns Mh Hi TX WH XT RJ MX Kd WZ QS Au Kq Hn TC vG TQ UK Mc TH UB UF TW bF TU Pb Pa lX NZ MJ UW VG UC SK Hf Cc WI Gx Lv TJ YT UA Cj Fv Td ZA NX OG C5 Ps Hb Il Rw QN TR Hq TM Cx Hh iO iK iW gW lA iI nJ Yd Oc Np WY lS Io; simp only [CC, eq_self, implies_true, forall_const, CU, WD, Ev, Mb, show OH (CV x.a) (XD x.a.c) = nlL x.a from rfl, show OH (CV x.a) (aS x) = cZ x from rfl, e0, BOP]; simp only [nl, tl1, tl, wn, wn2]
 have z9 : x.a.z.length < 1000000 := by
  obtain ⟨q1, q2⟩ := (BKZ (a := x.a) hm).1 zo
  rcases BCS q2 (a := 0) (b := 40) (λ g hg => by have := q1 g hg; omega) with h | h
  ·omega
  ·rw [h]; decide
 have step : ∀ k, k < x.a.c.ms.length - 1 -> ∀ i, i < k + 1 + 1 -> trT x i = bif decide (i < k + 1) then trT x i else PD (gD (cZ x) (IntKind.i64.wrap ((k : Int) + 1)).toNat).lo (IntKind.i64.wrap (trT x k + IntKind.i64.wrap (x.a.c.p.lo * IntKind.i64.wrap ((gD x.a.c.ms (IntKind.i64.wrap ((k : Int) + 1)).toNat).pl - (gD x.a.c.ms k).pl)))) := λ k hk i hi => by
  rw [ws k (by omega), Int.toNat_natCast]
  by_cases q : i < k + 1
  ·rw [decide_eq_true q]; rfl
  ·obtain rfl : i = k + 1 := by omega
   rw [decide_eq_false q]; rfl
 have step2 : ∀ k, k < x.a.c.ms.length - 1 -> ∀ i, i < k + 1 + 1 -> trS x i = bif decide (i < k + 1) then trS x i else (Dv x.a.c (IntKind.i64.wrap ((k : Int) + 1))).lo := λ k hk i hi => by
  rw [ws k (by omega)]
  by_cases q : i < k + 1
  ·rw [decide_eq_true q]; rfl
  ·obtain rfl : i = k + 1 := by omega
   rw [decide_eq_false q]; rfl
 have bd : ∀ k : Nat, k < x.a.c.ms.length - 1 -> 0 <= IntKind.i64.wrap ((k : Int) + 1) /\ IntKind.i64.wrap ((k : Int) + 1) < x.a.c.ms.length := λ k hk => by rw [ws k (by omega)]; omega
 have bk := bd
 refine ⟨⟨⟨l1, l2, l3⟩, c0⟩, (λ h => by simp at h), λ _ => ⟨λ hf => ?_, λ _ => ⟨⟨⟨⟨hm.1, hm.2, ni⟩, so⟩, default, trivial⟩, (λ hf => by rw [no] at hf; cases hf), λ _ => ⟨⟨⟨⟨m1, m2⟩, by omega, Nat.one_pos, λ j hj => ?_, ⟨m1, m2⟩, by omega⟩, default, trivial, λ i hi => ?_, trivial⟩, ⟨⟨Nat.le_refl _, trivial, hm.1, hm.2⟩, (λ hf => by rw [hk] at hf; cases hf), λ _ => ⟨default, trivial⟩⟩, ⟨⟨Int.le_refl _, by omega⟩, rfl, ⟨Int.le_refl _, by omega⟩, z9⟩, ⟨0, ⟨trivial, rfl, rfl, rfl, rfl, λ i hi => ?_, rfl, λ i hi => ?_⟩, Nat.zero_le _⟩, λ k hk => ⟨λ hlt => ⟨⟨bd k (by omega), by omega, by omega⟩, ⟨by omega, by omega⟩, by omega, λ hs => ?_, λ hs => ?_⟩, λ hge => ?_⟩⟩⟩⟩⟩
 ·have : KT x.m 0 ((x.a.c.ms.length - 1 : Nat) : Int) = true := GX.2 (by omega)
  rw [this] at hf; cases hf
 ·obtain rfl : j = 0 := by omega
  exact ⟨rfl, rfl⟩
 ·unfold aS
  rw [FF _ _ _ (by omega)]
  cases decide (i = x.m.toNat) <;> exact ⟨rfl, rfl⟩
 ·obtain rfl : i = 0 := by omega
  rfl
 ·obtain rfl : i = 0 := by omega
  rfl
 ·exact ⟨⟨bd k (by omega), ⟨by omega, by omega⟩, by omega, Nat.one_pos, (λ h => by cases h), by omega, by omega⟩, ⟨bd k (by omega), Nat.one_pos, (λ h => by cases h), by omega, by omega⟩, k + 1, ⟨(ws k (by omega)).symm, rfl, rfl, rfl, step k (by omega), rfl, step2 k (by omega)⟩, by omega, by omega⟩
 ·exact ⟨⟨bd k (by omega), ⟨by omega, by omega⟩, by omega, Nat.one_pos, (λ h => by cases h), by omega, by omega⟩, ⟨bd k (by omega), Nat.one_pos, (λ h => by cases h), by omega, by omega⟩, k + 1, ⟨(ws k (by omega)).symm, rfl, rfl, rfl, step k (by omega), rfl, step2 k (by omega)⟩, by omega, by omega⟩
 ·have e : x.a.c.ms.length = k + 1 := by omega
  have l1 : (dU x).t.length = x.a.c.ms.length := rng_length _ _
  have l2 : (dU x).s.length = x.a.c.ms.length := rng_length _ _
  exact ⟨by omega, by omega, λ j hj => FF _ _ _ (by omega), by omega, by omega, λ j hj => FF _ _ _ (by omega), rfl, λ _ _ => rfl⟩
theorem BUT (x : TrI) (h : AOY x) (hk : (cZ x).all Du = false) : BHT x := by
 obtain ⟨⟨l1, l2, l3⟩, hr, m1, m2⟩ := h
 obtain ⟨c0, zo, so, no, _⟩ := Ra hr
 have nl : (nlL x.a).length = x.a.c.ms.length := by unfold nlL; rw [Fz, IS]
 have tl1 := dD x
 have tl := AAS x
 obtain ⟨_, hm, _⟩ := IX c0
 have ni := (Qu c0).1
 have e0 : MO x.a = 0 := by unfold MO; rw [c0, zo]; rfl
 have wn : IntKind.i64.wrap ((x.a.c.ms.length : Int) - 1) = ((x.a.c.ms.length - 1 : Nat) : Int) := by rw [Bc (by omega) (by omega)]; omega
 rw [BMZ]<;> delta KH ZR BG BJ EC MM NO Hc ES ET BW ED AD BU CL AR GK BZ SC DJ EK HO KB EJ GW EX HP HN HJ GT GB HC DU GG FE JW IH Ef uS FP FK VV JL PW FY QC NJ JV NY EU MP KI YM AL JO Wj DO LY RX RV Cm Rm Fx Mr SW NK Mw mO Ad AE CR FA BB QE JA GA AF PX AY AU SX RA AG EM EZ BC FD mI Nc XG QF lT Zz yT AX FC BM CJ AK AN DD tA BH HX BY BP CX Bj HZ BN CY AW BS CE HQ QX FU AV DA AQ Jc EV DW AZ PF tF LX DQ CP FT AS OT ZW DM AP ID AT BV EG CN BX NE GI CM HD AHL CG IY GP OK EN FH HV AI DC Cn CK DT BT UR EL UU FV IP DK CD Zn NF EQ EP HW JY IV DB FN CB FM dC KZ XB UV HF VU PV TL Cs PH EA PG MB FQ PZ NG Ge kA NH GJ LQ BE LI Mx DX FO FZ LL KL Ki NC GH SV JU IC LM Ca OI Ct PI SY Bi EW IQ BO DH CQ BK JF OB GY CS EE UI FI GF II TV KP BI KQ BL EY RZ DG MC UL FW PN HM PJ DI SE VI QQ LD MY MG PT DN HI HG QK RN bV RC PE KO LC MV UM QG UG TN JQ HL JI VL JJ WA Jp JZ Cr Lb TK TG NW Bb QP JK RS SP Lc NQ ZI JG OY PC NU VB iZ UY WF PO Ao Gl De Bz Br TO WB Bw Db XR Ns Mh Hi WH XT RJ Kd WZ QS Au Kq Hn TC TQ UK Mc TH UB UF TW bF TU Pb Pa lX MJ UW VG UC SK Cc Gx Lv UA Fv Td ZA NX OG Ps Hb QN TR Hq TM Cx Hh iO iK iW gW iI Sf WY Io; simp only [CC, eq_self, implies_true, forall_const, CU, WD, Ev, Mb, show OH (CV x.a) (XD x.a.c) = nlL x.a from rfl, show OH (CV x.a) (aS x) = cZ x from rfl, e0, BOP]; simp only [nl, tl1, tl, wn]
 refine ⟨⟨⟨l1, l2, l3⟩, c0⟩, (λ h => by simp at h), λ _ => ⟨λ hf => ?_, λ _ => ⟨⟨⟨⟨hm.1, hm.2, ni⟩, so⟩, default, trivial⟩, (λ hf => by rw [no] at hf; cases hf), λ _ => ⟨⟨⟨⟨m1, m2⟩, by omega, Nat.one_pos, λ j hj => ?_, ⟨m1, m2⟩, by omega⟩, default, trivial, λ i hi => ?_, trivial⟩, ⟨Nat.le_refl _, trivial, hm.1, hm.2⟩, (λ hf => by rw [hk] at hf; cases hf)⟩⟩⟩⟩
 ·have : KT x.m 0 ((x.a.c.ms.length - 1 : Nat) : Int) = true := GX.2 (by omega)
  rw [this] at hf; cases hf
 ·obtain rfl : j = 0 := by omega
  exact ⟨rfl, rfl⟩
 ·unfold aS
  rw [FF _ _ _ (by omega)]
  cases decide (i = x.m.toNat) <;> exact ⟨rfl, rfl⟩
end Go.Bal
