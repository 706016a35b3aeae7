/- Package chart, with the reference: Check, stages of a mark. -/
import Derived.Test.YtdbjalgfomknhaaGreatChZn
import Derived.Test.YtdbjalgfomknhaaGreatChM
import Derived.Test.YtdbjalgfomknhaaGreatChT8
set_option linter.unusedVariables false
set_option linter.unusedSimpArgs false
namespace Go.Bal
open Go Go.Sym Go.Proofs
def AUH (x : I3) : Prop := CL Try.prog (ann 15 []) AOB (AH AOB) (xI3 x) (AB []) (.bool (!TP x.a x.b x.c)) [] [] []
theorem BGM (x : I3) : (AUH x) = (KY (Hn (I3.a x) (I3.b x) (I3.c x)) (NC (IP (I3.a x) (I3.b x)) (As (I3.a x) (I3.c x)))) := by kernel_rfl
def AGM := pD dI3 λ x => .bool (!TP x.a x.b x.c)
theorem AGL : AK Try.prog S9 AGM := Ik xI3 hI3 λ x _ => Rc (A := ann 15 []) (ren := []) (fz := []) BGK (by kernel_rfl) AD (by
 show AUH x; rw [BGM]<;> delta KY IP IX As NC Hn
 unfold TP; by_cases h : x.b <= x.a <;> by_cases h2 : x.a <= x.c <;> simp [h, h2] <;> omega)
def AWY (x : SII) : Prop := CL Try.prog (ann 24 []) wD (AH wD) (xSII x) (AB []) (.bool (!UT x.s x.a x.b)) [] [] []
abbrev Su a b:=As a (BI b)
attribute [go_sem] Su
theorem BGT (x : SII) : (AWY x) = (KY (not (hd9 (K5 x) (SII.a x) (SII.b x))) (NC (NC (IP (BA (K5 x)) (SII.a x)) (As (BI (K5 x)) (SII.b x))) (Su (BA (K5 x)) (K5 x)))) := by kernel_rfl
def BBV := pD dSII λ x => .bool (!UT x.s x.a x.b)
theorem BGS : AK Try.prog F4 BBV := Ik xSII hSII λ x _ => Rc (A := ann 24 []) (ren := []) (fz := []) AON (by kernel_rfl) AD (by
 show AWY x; rw [BGT]<;> delta KY hd9 K5 BA BI IP IX As NC Su
 unfold UT TP
 by_cases h1 : x.a <= x.s.lo <;> by_cases h2 : x.s.lo <= x.b <;> by_cases h3 : x.s.lo <= x.s.hi <;> by_cases h4 : x.s.hi <= x.b <;> simp [h1, h2, h3, h4] <;> omega)
def prvP (c : Cht) : Nat -> Int
 | 0 => -1
 | k + 1 => (gD c.ms k).pl
def rgt (c : Cht) (k : Nat) : Bool := SP (gD c.ns k) c.ms.length
def zEq (c : Cht) (i k : Nat) : Bool := !((gD c.ns i).mi == (gD c.ns k).mi)
def zk6 (c : Cht) : Shape := { α := Nat, dflt := 0, T := λ k => ⟨[(1, .bptr 201 0), (3, .int k)], [(201, .live (oI c))]⟩, inv := λ k => k <= c.ms.length /\ WC c = 0 /\ iH (prvP c k) (c.ms.drop k) = iH (-1) c.ms, meas := λ k => c.ms.length - k, first := [(201, 1000)] }
def zk13 (c : Cht) : Shape := { α := Nat, dflt := 0, T := λ k => ⟨[(1, .bptr 201 0), (4, .int k)], [(201, .live (oI c))]⟩, inv := λ k => k <= c.ns.length /\ WC c = 0 /\ iH (-1) c.ms = 0 /\ Pf (rgt c) k = true, meas := λ k => c.ns.length - k }
def zk19 (c : Cht) : Shape := { α := Nat, dflt := 0, T := λ k => ⟨[(1, .bptr 201 0), (6, .int k)], [(201, .live (oI c))]⟩, inv := λ k => k <= c.ns.length /\ WC c = 0 /\ iH (-1) c.ms = 0 /\ Pf (rgt c) c.ns.length = true /\ Pf (iF c.ns) k = true, meas := λ k => c.ns.length - k }
def zk22 (c : Cht) (m : Nat) : Shape := { α := IJ, dflt := default, T := λ s => ⟨[(1, .bptr 201 0), (6, .int s.i), (7, .int s.j)], [(201, .live (oI c))]⟩, inv := λ s => (s.i < c.ns.length /\ c.ns.length - s.i = m /\ s.j <= s.i) /\ WC c = 0 /\ iH (-1) c.ms = 0 /\ Pf (rgt c) c.ns.length = true /\ Pf (iF c.ns) s.i = true /\ Pf (zEq c s.i) s.j = true, meas := λ s => s.i - s.j }
def AJJ (c : Cht) : Ann := { ann 137 [(S9, AGM), (F4, BBV)] with loops := λ id => if id = 6 then some [zk6 c] else if id = 13 then some [zk13 c] else if id = 19 then some [zk19 c] else none, inner := λ gs id => if id = 22 then some [zk22 c (gs.getD 0 0)] else none }
def AKY (c : Cht) : Prop := CL Try.prog (AJJ c) O6 (AH O6) (C_Check.xs c) (AB []) (C_Check.val c) [] [] []
abbrev Ti a b:=iP (rgt a) b
attribute [go_sem] Ti
theorem ATD (c : Cht) : (AKY c) = (Gk (NC (IP (NF c) 1) (As (NF c) 40)) (OT (AO c) 20) (SD c 3) (Gk (NC (NC (not (hd9 (GA c) 1 600)) (Hn (HQ c) (-1000000) 1000000)) (Bm (HT c) 1000)) (Bm (HC c) 1000) (SD c 30) (DY (λ i=>AN (Dw (BR i) c) (DH i (AW c)) (VV c) (AQ (iH (prvP c i) (vS i (GP c))) (aG c))) (λ i=>HX (AE (DH i (AW c)) (VV c) (AQ (iH (prvP c i) (vS i (GP c))) (aG c))) (IS i (NF c)) (And (DG i (AW c)) (HL (not (Bm (BO c i) 10000)) (DG i (AW c)))) (Gk (Bm (BO c i) 10000) (Bm (CF c i) 1000) (SD c 30) (GN (And (HL (OT i 0) (DG i (AW c))) (UJ (OT i 0) (VW i) (AW c))) (GH (OT i 0) (hd7 (BO c i) (Qm c (VW i)))) (SD c 9) (GW (λ j=>DU (Dw (BH j i) c) (AE (DH j (AW c)) (VV c) (AQ (iH (prvP c j) (vS j (GP c))) (aG c))) (AW c) j i)))) (DY (λ j=>AG (Dw (BR j) c) (Qj j c) (VV c) (Fz c) (Ti c j)) (λ j=>CO (AN (Qj j c) (VV c) (Fz c) (Ti c j)) j (AO c) (Af j c) (PB (NC (NC (Bm (DD c j) (OZ (NF c))) (not (hd9 (DM c j) 0 10000000))) (not (hd9 (FI (BG c j)) (-3000000) 3000000))) (SD c 30) (λ k=>DU (Dw (BH k j) c) (AN (Qj k c) (VV c) (Fz c) (Ti c k)) (AO c) k j)) (DY (λ k=>CW (Dw (BR k) c) (Qj k c) (VV c) (Fz c) (Ti c (AO c)) (Qw c k)) (λ k=>CO (AG (Qj k c) (VV c) (Fz c) (Ti c (AO c)) (Qw c k)) k (AO c) (Om (λ l=>CI (AE (Dm l k) (BR (EI l)) (FO c)) (UA (Qy l c) (Pz c l c k) (EI l) (EW l)) (VV c) (Fz c) (Ti c (AO c)) (Qw c (EW l)) (iP (zEq c (EW l)) (EI l)))) (oR (λ l=>CO (CW (UA (Qy l c) (Pz c l c k) (EI l) (EW l)) (VV c) (Fz c) (Ti c (AO c)) (Qw c (EW l)) (iP (zEq c (EW l)) (EI l))) (EI l) (EW l) (RG (Af (EW l) c) (Ni l) (AO c)) (DX (WI (DD c (EW l)) (DD c (EI l))) (SD c 10) (Om (λ m=>LX (AE (Mi m l) (Pv m (EI l)) (FO c)) (CW (UA (Qy m c) (Pz c m c k) (EI m) (EW m)) (VV c) (Fz c) (Ti c (AO c)) (Qw c (EW m)) (iP (zEq c (EW m)) (EI m))) (EW m) (EI m) (EW l) (EI l)))) (GW (λ m=>DU (Dw (BH m (EW l)) c) (AG (Qj m c) (VV c) (Fz c) (Ti c (AO c)) (Qw c m)) (AO c) m k)))) (RT c))))))))) := by kernel_rfl
theorem APU {c : Cht} {i : Nat} (hi : i < c.ns.length) : iF c.ns i = Pf (zEq c i) i := by
 rw [Bool.eq_iff_iff, S7 hi, Oc]
 unfold zEq
 simp only [Bool.not_eq_true', beq_eq_false_iff_ne]
 exact ⟨λ h j hj e => h j hj e.symm, λ h j hj e => h j hj e.symm⟩
theorem AHQ (c : Cht) : c.ns.all (λ n => SP n c.ms.length) = Pf (rgt c) c.ns.length := by
 rw [Bool.eq_iff_iff, List.all_eq_true, Oc]
 constructor
 ·intro h i hi; exact h _ (WR hi)
 ·intro h n hn
  obtain ⟨i, hi, rfl⟩ := YH hn
  exact h i hi
theorem AZN (c : Cht) (h : c.ms.length < 4611686018427387904 /\ c.ns.length < 4611686018427387904) : AKY c := by
 obtain ⟨hm, hn⟩ := h
 rw [ATD]<;> delta KY hd7 Aq hd9 BA BI FW OH PR Cs EX FI CE AC BX CM AQ BU DH DX IP HD LS PG JV ER GP GA HQ HT HC HR DS GB ED GW WI IX As vS HV Om EW EI oR AE BG AW AG BF BE CK AR CN BD AF CG BC AO CQ BS CV CY BO HK CR DD AL CF AM AT DM DZ GF GG DW AS DJ AP EY DC DB HW GR FZ JD DF KU FE DE CJ GQ AN DI OZ FL JE HY JH LV JG BH HL uZ JQ JF JP DV DQ DG EB NF LX CW OX IN QI IS MU HG HX Iq DU QN CH CI BR RT GH VW GN CO UA DY FO RD NC iP Dm VV Hn RG OT SD aG Vj Vh Fz PB Ni Bm UJ Af Dw Qy Qw Mi Ti Gk Qj Pz Pv Qm; simp only [CC, eq_self, implies_true, forall_const]
 have hA : (bif bif decide ((c.ms.length : Int) < 1) then true else decide ((c.ms.length : Int) > 40) then true else decide ((c.ns.length : Int) > 20)) = bif !TP c.ms.length 1 40 then true else decide ((c.ns.length : Int) > 20) := by
  unfold TP
  by_cases h1 : (1 : Int) <= c.ms.length <;> by_cases h2 : (c.ms.length : Int) <= 40 <;> simp [h1, h2] <;> omega
 simp only [hA]
 have k0 : ∀ v : Int, v ≠ 0 -> WC c = 0 -> iH (-1) c.ms = v -> AU c = v := λ v hv e hm => by
  have hv0 := hv
  have hv' : (v != 0) = true := by simpa using hv
  unfold AU; rw [e, hm, hv']; rfl
 refine ⟨λ h1 => ?_, λ h1 => ⟨λ h2 => ?_, λ h2 => ?_⟩⟩
 ·have e : WC c = 3 := by unfold WC; rw [h1]; rfl
  unfold AU; rw [e]; rfl
 ·have e : WC c = 30 := by unfold WC; rw [h1, h2]; rfl
  unfold AU; rw [e]; rfl
 have e : WC c = 0 := by unfold WC; rw [h1, h2]; rfl
 have hl : 1 <= c.ms.length /\ c.ms.length <= 40 /\ c.ns.length <= 20 := by
  obtain ⟨q1, q2, _⟩ := D7.1 e; exact ⟨q1.1, q1.2, q2⟩
 refine ⟨⟨0, rfl, Nat.zero_le _, e, rfl⟩, λ k ⟨s1, _, s3⟩ => ⟨λ hlt => ?_, λ hge => ?_⟩⟩
 ·have hlt : k < c.ms.length := by omega
  have hd := L8 hlt
  have s4 := s3
  rw [hd] at s3
  have hpr : ∀ v, TP (gD c.ms k).pl 0 10000 = true -> (bif decide ((k : Int) > 0) then decide ((gD c.ms k).pl <= (gD c.ms (IntKind.i64.wrap ((k : Int) - 1)).toNat).pl) else false) = v -> decide ((gD c.ms k).pl <= prvP c k) = v := by
   intro v hi hv
   rw [<- hv]
   rcases k with _ | k
   ·have := (MV.1 hi).1
    rw [decide_eq_false (show ¬ (gD c.ms 0).pl <= prvP c 0 by show ¬ _ <= (-1 : Int); omega)]; rfl
   ·rw [show IntKind.i64.wrap (((k + 1 : Nat) : Int) - 1) = (k : Int) from by rw [Dh (by omega) (by omega)]; omega, decide_eq_true (show ((k + 1 : Nat) : Int) > 0 by omega)]
    rfl
  refine ⟨⟨by omega, λ _ => by omega⟩, λ h3 => ?_, λ h3 => ⟨⟨λ h => by omega, λ h => ?_⟩, λ h4 => ?_, λ h4 => ⟨k + 1, (FH (by omega)).symm, ⟨by omega, e, ?_⟩, by omega⟩⟩⟩
  ·exact k0 30 (by decide) e (by rw [<- s3]; unfold iH; rw [h3]; rfl)
  ·rw [show IntKind.i64.wrap ((k : Int) - 1) = (k : Int) - 1 from Dh (by omega) (by omega)]; omega
  ·have hi : TP (gD c.ms k).pl 0 10000 = true := by
    cases hc : TP (gD c.ms k).pl 0 10000 with
    | true => rfl
    | false => rw [hc] at h3; cases h3
   exact k0 9 (by decide) e (by rw [<- s3]; unfold iH; rw [h3, hpr _ hi h4]; rfl)
  ·have hi : TP (gD c.ms k).pl 0 10000 = true := by
    cases hc : TP (gD c.ms k).pl 0 10000 with
    | true => rfl
    | false => rw [hc] at h3; cases h3
   rw [<- s3]; conv => rhs; unfold iH
   rw [h3, hpr _ hi h4]; rfl
 ·have hmk : iH (-1) c.ms = 0 := by rw [<- s3, List.drop_of_length_le (by omega)]; rfl
  refine ⟨⟨0, rfl, Nat.zero_le _, e, hmk, rfl⟩, λ k ⟨k1, _, _, k4⟩ => ⟨λ hlt => ?_, λ hge => ?_⟩⟩
  ·have hlt : k < c.ns.length := by omega
   have hr : ∀ v, (bif bif !TP (gD c.ns k).mi 0 (IntKind.i64.wrap ((c.ms.length : Int) - 1)) then true else !UT (gD c.ns k).t 0 10000000 then true else !UT (gD c.ns k).s (-3000000) 3000000) = v -> rgt c k = !v := by
    intro v hv
    rw [<- hv]; unfold rgt SP wr
    cases TP (gD c.ns k).mi 0 (IntKind.i64.wrap ((c.ms.length : Int) - 1)) <;> cases UT (gD c.ns k).t 0 10000000 <;> cases UT (gD c.ns k).s (-3000000) 3000000 <;> rfl
   refine ⟨by omega, λ h3 => ?_, λ h3 => ⟨k + 1, (FH (by omega)).symm, ⟨by omega, e, hmk, ?_⟩, by omega⟩⟩
   ·have := oF hlt (hr _ h3)
    unfold AU; rw [e, hmk, AHQ, this]; rfl
   ·show (Pf (rgt c) k && rgt c k) = true
    rw [k4, hr _ h3]; rfl
  ·obtain rfl : k = c.ns.length := by omega
   refine ⟨⟨0, rfl, Nat.zero_le _, e, hmk, k4, rfl⟩, λ i ⟨i1, _, _, _, i5⟩ => ⟨λ hlt => ⟨⟨⟨i, 0⟩, ⟨rfl, rfl⟩, ⟨by show i < _; omega, rfl, Nat.zero_le _⟩, e, hmk, k4, i5, rfl⟩, λ s ⟨⟨s1, s2, s3⟩, _, _, _, s7, s8⟩ => ⟨λ hj => ?_, λ hj => ?_⟩⟩, λ hge2 => ?_⟩⟩
   ·have hj : s.j < s.i := by omega
    refine ⟨⟨by omega, by omega⟩, λ h4 => ?_, λ h4 => ⟨⟨s.i, s.j + 1⟩, ⟨rfl, (FH (by omega)).symm⟩, ⟨⟨s1, s2, by show s.j + 1 <= s.i; omega⟩, e, hmk, k4, s7, ?_⟩, by show s.i - (s.j + 1) < s.i - s.j; omega⟩⟩
    ·have hd : iF c.ns s.i = false := by
      rw [APU s1]; exact oF hj (by unfold zEq; rw [h4]; rfl)
     have := oF s1 hd
     unfold AU; rw [e, hmk, AHQ, k4, this]; rfl
    ·show (Pf (zEq c s.i) s.j && zEq c s.i s.j) = true
     rw [s8]; unfold zEq; rw [h4]; rfl
   ·have hj : s.j = s.i := by omega
    refine ⟨s.i + 1, (FH (by omega)).symm, ⟨by omega, e, hmk, k4, ?_⟩, by omega⟩
    show (Pf (iF c.ns) s.i && iF c.ns s.i) = true
    rw [hj] at s8
    rw [s7, APU s1, s8]; rfl
   ·obtain rfl : i = c.ns.length := by omega
    unfold AU; rw [e, hmk, AHQ, k4, i5]; rfl
theorem ACF : AK Try.prog tP (C_Check.spec oQ) := XM C_Check AJJ [] [] ATV (λ _ => by kernel_rfl) (λ _ => AA AGL (AA BGS AD)) AZN (λ _ => YR rfl rfl) _
structure CtI where
 c : Cht
 k : Int
def dCtI : List AVal -> Heap -> Option (CtI × List (Nat × Nat) × List Nat)
 | [x, .d k], H => match vO x H with
  | some (c, f) => some (⟨c, HM k⟩, [], f)
  | none => none
 | _, _ => none
def stN (c : Cht) (m : Int) : Nat -> Span
 | 0 => st0 c m
 | k + 1 => bif (gD c.ns k).mi == m then hJ (stN c m k) (gD c.ns k).s else stN c m k
def C_zst : Ctr := { α := CtI, xs := λ a => [.d (Ef a.c), .int a.k], val := λ a => .d (FX (QF a.c a.k)), keep := λ _ => [], pre := λ a => [(0 <= a.k /\ a.k < a.c.ms.length) /\ AU a.c = 0] }
def zs4 (a : CtI) : Shape := { α := NS, dflt := default, T := λ s => ⟨[(1, .int a.k), (2, .bptr 201 0), (4, .bptr 202 0), (6, .bptr 203 0), (7, .int s.k)], [(201, .live (oI a.c)), (202, .live (.box [.int 0, .int 0])), (203, .live (.box [.int s.m.lo, .int s.m.hi]))]⟩, inv := λ s => s.k <= a.c.ns.length /\ s.m = stN a.c a.k s.k, meas := λ s => a.c.ns.length - s.k, first := [(201, 1000), (202, 1016), (203, 3144)] }
def BHU (a : CtI) : Ann := { ann 67 [] with loops := λ id => if id = 4 then some [zs4 a] else none }
def BHH (a : CtI) : Prop := CL Try.prog (BHU a) E7 (AH E7) (C_zst.xs a) (AB []) (C_zst.val a) [] [] []
abbrev Ew:=CtI.k
abbrev GU:=CtI.c
abbrev J1 a b c d e f g h:=AR a b c d e f f g h
abbrev Jq a b c d e f g:=J1 a b c (DB d) e AJ f g
attribute [go_sem] Ew GU J1 Jq
theorem BMO (a : CtI) : (BHH a) = (AE (DQ (Ew a) (AW (GU a))) (hd25 (λ i=>ML (CI (AF (Ew a)) (BR (YP i)) (AM (GU a)) (AL (GU a)) (AP (GU a)) (AS (GU a)) (Jq (AT (GU a)) (DE (GU a)) (RM (GU a)) (GU a) (NZ (GU a)) (KP (Ro i) (KU (yC (GU a) (Ew a)) (HC (GU a)))) (BF (Ro i) (GF (yC (GU a) (Ew a)) (HC (GU a)))))) (YP i) (AO (GU a)) (Zc i (stN (GU a) (Ew a) (YP i))))) (hd44 (λ i=>CO (JI (YP i) (AO (GU a)) (Zc i (stN (GU a) (Ew a) (YP i)))) (YP i) (AO (GU a)) (Af (YP i) (GU a)) (DX (WI (DD (GU a) (YP i)) (Ew a)) (YT (Af (YP i) (GU a)) (hd25 (λ j=>LH (CI (AF (Ew a)) (BH (YP j) (YP i)) (AM (GU a)) (AL (GU a)) (AP (GU a)) (AS (GU a)) (Jq (AT (GU a)) (DE (GU a)) (RM (GU a)) (GU a) (NZ (GU a)) (KP (Ro j) (WK (BA (Ro i)) (EY (GU a) (YP i)))) (BF (Ro j) (Nm (BI (Ro i)) (Hs (BG (GU a) (YP i))))))) (YP j) (AO (GU a)) (Zc j (stN (GU a) (Ew a) (YP j))) (YP i)))) (hd25 (λ j=>LH (CI (AF (Ew a)) (BH (YP j) (YP i)) (AM (GU a)) (AL (GU a)) (AP (GU a)) (AS (GU a)) (Jq (AT (GU a)) (DE (GU a)) (RM (GU a)) (GU a) (NZ (GU a)) (NQ (Ro j) (Ro i)) (BD (Ro j) (Ro i)))) (YP j) (AO (GU a)) (Zc j (stN (GU a) (Ew a) (YP j))) (YP i)))) (And (NQ (Bz (GU a) (Ew a)) (Ro i)) (BD (Bz (GU a) (Ew a)) (Ro i)))))) := by kernel_rfl
theorem ANO {c : Cht} {m : Int} : ∀ k, (∀ i, i < k -> (gD c.ns i).mi ≠ m) -> stN c m k = st0 c m
 | 0, _ => rfl
 | k + 1, h => by
  show (bif (gD c.ns k).mi == m then _ else _) = _
  rw [show ((gD c.ns k).mi == m) = false by simpa using h k (Nat.lt_succ_self _)]
  exact ANO k λ i hi => h i (by omega)
theorem BCD {c : Cht} (h : ChOk c) {m : Int} {j : Nat} (hm : (gD c.ns j).mi = m) : ∀ k, j < k -> k <= c.ns.length -> stN c m k = hJ (st0 c m) (gD c.ns j).s
 | 0, h1, _ => absurd h1 (Nat.not_lt_zero _)
 | k + 1, h1, h2 => by
  show (bif (gD c.ns k).mi == m then _ else _) = _
  by_cases e : j = k
  ·subst e
   rw [show ((gD c.ns j).mi == m) = true by simpa using hm]
   show hJ (stN c m j) _ = _
   rw [ANO j λ i hi e => h.one i j hi (by omega) (by rw [e, hm])]
  ·rw [show ((gD c.ns k).mi == m) = false by simpa using λ e2 => h.one j k (by omega) (by omega) (by rw [e2, hm])]
   exact BCD h hm k (by omega) (by omega)
theorem BFY {c : Cht} (h : ChOk c) (m : Int) : stN c m c.ns.length = QF c m := by
 unfold QF
 cases hq : hasN c.ns m with
 | false =>
  refine ANO _ λ i hi e => ?_
  have := W2.2 ⟨gD c.ns i, WR hi, e⟩
  rw [hq] at this; cases this
 | true =>
  obtain ⟨q1, q2⟩ := iR hq
  obtain ⟨j, hj, e⟩ := YH q1
  show _ = hJ (st0 c m) (ntOf c.ns m).s
  rw [BCD h (j := j) (by rw [e]; exact q2) _ hj (Nat.le_refl _), e]
theorem BPB (a : CtI) (h : (0 <= a.k /\ a.k < a.c.ms.length) /\ AU a.c = 0) : BHH a := by
 obtain ⟨hk, h0⟩ := h
 have hc := PX.1 h0
 have hn := hc.n
 rw [BMO]<;> delta BA BI FW OH PR Cs EX FI hd25 CE AC BX CM AQ BU YP Ro WF DH hd40 hd44 DX IP HD LS PG WK Nm JV ER GP GA HQ HT HC HR DS GB ED WI HV Re Bz Ew GU AE BG AW AG BF BE CK AR CN BD AF CG BC YT J1 AO CQ BS CV CY BO HK CR DD AL CF AM AT DM DZ GF GG DW AS DJ AP EY DC DB HW GR FZ JD KU FE DE CJ GQ MF FL JE HY JH LV JG BH JI JQ JP DV DQ DG EB LX IS HG HX pO DU CH AJ CI BR KP wU CO NQ NZ RM ZX LH ML Jq Af Hs yC Zc; simp only [CC, eq_self, implies_true, forall_const]
 refine ⟨hk, ⟨⟨0, st0 a.c a.k⟩, ⟨rfl, rfl, rfl⟩, Nat.zero_le _, rfl⟩, λ s ⟨s1, s2⟩ => ⟨λ hlt => ?_, λ hge => ?_⟩⟩
 ·have hlt : s.k < a.c.ns.length := by omega
  refine ⟨by omega, λ h3 => ⟨by omega, by omega, ⟨s.k + 1, hJ s.m (gD a.c.ns s.k).s⟩, ⟨(FH (by omega)).symm, rfl, rfl⟩, ⟨by show s.k + 1 <= _; omega, ?_⟩, by show a.c.ns.length - (s.k + 1) < _; omega⟩, λ h3 => ⟨⟨s.k + 1, s.m⟩, ⟨(FH (by omega)).symm, rfl, rfl⟩, ⟨by show s.k + 1 <= _; omega, ?_⟩, by show a.c.ns.length - (s.k + 1) < _; omega⟩⟩
  ·show hJ s.m _ = bif (gD a.c.ns s.k).mi == a.k then _ else _
   rw [h3, s2]; rfl
  ·show s.m = bif (gD a.c.ns s.k).mi == a.k then _ else _
   rw [h3, s2]; rfl
 ·have e : s.k = a.c.ns.length := by omega
  rw [s2, e, BFY hc]; exact ⟨rfl, rfl⟩
theorem AHT : AK Try.prog Sm (C_zst.spec dCtI) := XM C_zst BHU [] [] ANE (λ _ => by kernel_rfl) (λ _ => AD) (λ a h => BPB a h) (λ _ => YR rfl rfl) _
end Go.Bal
