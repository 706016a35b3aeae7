/- Package chart, with the reference: Check, stages of a mark. -/
import Derived.Test.YtdbjalgfomknhaaGreatChZn
import Derived.Test.YtdbjalgfomknhaaGreatChM
set_option linter.unusedVariables false
set_option linter.unusedSimpArgs false
namespace Go.Bal
open Go Go.Sym Go.Proofs
def BDI (x : I3) : Prop := CF Try.prog (ann 15 []) AVD (AH AVD) (xI3 x) (AB []) (.bool (!TD x.a x.b x.c)) [] [] []
theorem BMR (x : I3) : (BDI x) = (JH (Nn (I3.a x) (I3.b x) (I3.c x)) (XP (JL (I3.a x) (I3.b x)) (I3.a x) (I3.c x))) := by kernel_rfl
def ABF := pD dI3 λ x => .bool (!TD x.a x.b x.c)
theorem APW : AK Try.prog E0 ABF := Ki xI3 hI3 λ x _ => Pn (A := ann 15 []) (ren := []) (fz := []) BOR (by kernel_rfl) AC (by
 show BDI x; rw [BMR]<;> delta JH zU JL LC XS PP Nn XP
 unfold TD; by_cases h : x.b <= x.a <;> by_cases h2 : x.a <= x.c <;> simp [h, h2] <;> omega)
def BKZ (x : SII) : Prop := CF Try.prog (ann 24 []) A7 (AH A7) (xSII x) (AB []) (.bool (!UG x.s x.a x.b)) [] [] []
theorem BNN (x : SII) : (BKZ x) = (JH (not (hd9 (Y7 x) (SII.a x) (SII.b x))) (XP (XP (JL (BI (Y7 x)) (SII.a x)) (BF (Y7 x)) (SII.b x)) (BI (Y7 x)) (BF (Y7 x)))) := by kernel_rfl
def BIX := pD dSII λ x => .bool (!UG x.s x.a x.b)
theorem BNW : AK Try.prog A8 BIX := Ki xSII hSII λ x _ => Pn (A := ann 24 []) (ren := []) (fz := []) AXA (by kernel_rfl) AC (by
 show BKZ x; rw [BNN]<;> delta JH zU hd9 Y7 BI BF JL LC XS PP XP
 unfold UG TD
 by_cases h1 : x.a <= x.s.lo <;> by_cases h2 : x.s.lo <= x.b <;> by_cases h3 : x.s.lo <= x.s.hi <;> by_cases h4 : x.s.hi <= x.b <;> simp [h1, h2, h3, h4] <;> omega)
def prvP (c : Cht) : Nat -> Int
 | 0 => -1
 | k + 1 => (gD c.ms k).pl
def rgt (c : Cht) (k : Nat) : Bool := RG (gD c.ns k) c.ms.length
def zEq (c : Cht) (i k : Nat) : Bool := !((gD c.ns i).mi == (gD c.ns k).mi)
def zk6 (c : Cht) : Shape := { α := Nat, dflt := 0, T := λ k => ⟨[(1, .bptr 201 0), (3, .int k)], [(201, .live (gI c))]⟩, inv := λ k => k <= c.ms.length /\ VU c = 0 /\ iZ (prvP c k) (c.ms.drop k) = iZ (-1) c.ms, meas := λ k => c.ms.length - k, first := [(201, 1000)] }
def zk13 (c : Cht) : Shape := { α := Nat, dflt := 0, T := λ k => ⟨[(1, .bptr 201 0), (4, .int k)], [(201, .live (gI c))]⟩, inv := λ k => k <= c.ns.length /\ VU c = 0 /\ iZ (-1) c.ms = 0 /\ WZ (rgt c) k = true, meas := λ k => c.ns.length - k }
def zk19 (c : Cht) : Shape := { α := Nat, dflt := 0, T := λ k => ⟨[(1, .bptr 201 0), (6, .int k)], [(201, .live (gI c))]⟩, inv := λ k => k <= c.ns.length /\ VU c = 0 /\ iZ (-1) c.ms = 0 /\ WZ (rgt c) c.ns.length = true /\ WZ (iY c.ns) k = true, meas := λ k => c.ns.length - k }
def zk22 (c : Cht) (m : Nat) : Shape := { α := IJ, dflt := default, T := λ s => ⟨[(1, .bptr 201 0), (6, .int s.i), (7, .int s.j)], [(201, .live (gI c))]⟩, inv := λ s => (s.i < c.ns.length /\ c.ns.length - s.i = m /\ s.j <= s.i) /\ VU c = 0 /\ iZ (-1) c.ms = 0 /\ WZ (rgt c) c.ns.length = true /\ WZ (iY c.ns) s.i = true /\ WZ (zEq c s.i) s.j = true, meas := λ s => s.i - s.j }
def AQW (c : Cht) : Ann := { ann 137 [(E0, ABF), (A8, BIX)] with loops := λ id => if id = 6 then some [zk6 c] else if id = 13 then some [zk13 c] else if id = 19 then some [zk19 c] else none, inner := λ gs id => if id = 22 then some [zk22 c (gs.getD 0 0)] else none }
def ARV (c : Cht) : Prop := CF Try.prog (AQW c) AFX (AH AFX) (C_Check.xs c) (AB []) (C_Check.val c) [] [] []
abbrev Vy a b:=lH (rgt a) b
abbrev eU a:=kD (BE a)
attribute [go_sem] Vy eU
theorem BBH (c : Cht) : (ARV c) = (EC (XP (XP (JL (KF c) 1) (KF c) 40) (KV c) 20) (PY c 3) (EC (Mq (Mq (PP (not (hd9 (FK c) 1 600)) (Nn (HV c) (-1000000) 1000000)) (IB c) 1000) (HK c) 1000) (PY c 30) (FV (λ i=>BC (BZ i) (DG c) (SH (Cb i c) (UT c) (iZ (prvP c i) (wX i (GW c))) (Yv c))) (λ i=>JF (SH (Cb i c) (UT c) (iZ (prvP c i) (wX i (GW c))) (Yv c)) i (KF c) (FF i (AU c) (HX (not (Ef (BV c i) 10000)) (BE i) (AU c))) (EC (Mq (Ef (BV c i) 10000) (CK c i) 1000) (PY c 30) (BC (HX (eU i) (BE i) (AU c)) (HX (eU i) (LZ (BE i)) (AU c)) (NG (LJ (eU i) (hd7 (BV c i) (Qt c (LZ (BE i))))) (PY c 9) (λ j=>GM (BR j i) (DG c) (SH (Cb j c) (UT c) (iZ (prvP c j) (wX j (GW c))) (Yv c)) (AU c) j i)))) (FV (λ j=>AG (And (BZ j) (DG c)) (Jk j c) (UT c) (Gy c) (Vy c j)) (λ j=>NR (Jc j c (AD (UT c) (Gy c) (Vy c j))) j (KV c) (FF j (AO c) (NG (PP (PP (Ef (BW c j) (LZ (KF c))) (not (hd9 (BD c j) 0 10000000))) (not (hd9 (BK c j) (-3000000) 3000000))) (PY c 30) (λ k=>GM (BR k j) (DG c) (Jc k c (AD (UT c) (Gy c) (Vy c k))) (AO c) k j))) (FV (λ k=>BC (BZ k) (DG c) (AG (Jk k c) (UT c) (Gy c) (Vy c (AO c)) (Pt c k))) (λ k=>JF (AG (Jk k c) (UT c) (Gy c) (Vy c (AO c)) (Pt c k)) k (KV c) (Hl (λ l=>DT (AD (Jy l k) (BZ (EE l)) (DG c)) (KM (CR l) (AO c) (Ps c l k) (Qw l l)) (UT c) (Gy c) (Vy c (AO c)) (Pt c (CR l)) (lH (zEq c (CR l)) (EE l)))) (iR (λ l=>IR (IN (Us l c) (Ps c l k) (Qw l l) (AG (UT c) (Gy c) (Vy c (AO c)) (Pt c (CR l)) (lH (zEq c (CR l)) (EE l)))) (OU l) (SD l) (WB (CR l) (SD l) (AO c) (JM (EE l)) (DK (OU l) (AO c))) (EC (Ey (BW c (CR l)) (BW c (EE l))) (PY c 10) (Hl (λ m=>TV (Gk m l) (BR (EE m) (EE l)) (DG c) (IN (Us m c) (Ps c m k) (Qw m m) (AG (UT c) (Gy c) (Vy c (AO c)) (Pt c (CR m)) (lH (zEq c (CR m)) (EE m)))) (LG (CR m) (EE m) (CR l) (EE l))))) (HA (λ m=>GM (BR m (CR l)) (DG c) (AG (Jk m c) (UT c) (Gy c) (Vy c (AO c)) (Pt c m)) (AO c) m k)))) (LB c))))))))) := by kernel_rfl
theorem BAR {c : Cht} {i : Nat} (hi : i < c.ns.length) : iY c.ns i = WZ (zEq c i) i := by
 rw [Bool.eq_iff_iff, AFP hi, Ay]
 unfold zEq
 simp only [Bool.not_eq_true', beq_eq_false_iff_ne]
 exact ⟨λ h j hj e => h j hj e.symm, λ h j hj e => h j hj e.symm⟩
theorem AOV (c : Cht) : c.ns.all (λ n => RG n c.ms.length) = WZ (rgt c) c.ns.length := by
 rw [Bool.eq_iff_iff, List.all_eq_true, Ay]
 constructor
 ·intro h i hi; exact h _ (HW hi)
 ·intro h n hn
  obtain ⟨i, hi, rfl⟩ := OV hn
  exact h i hi
theorem BEX (c : Cht) (h : c.ms.length < 4611686018427387904 /\ c.ns.length < 4611686018427387904) : ARV c := by
 obtain ⟨hm, hn⟩ := h
 rw [BBH]<;> delta JH zU hd7 Hi hd9 BI BF EN MM ON Ep EB EA BY AF CN CO AS BE EU EC JL FY MN NT LS ET GW FK HV IB HK GV FU HC DV FW EY HA Ey LC XS wX EP Hl CR EE iR AD CI AU AG AZ AX AE BM AW BL BD AO AR DD BA BK CX HI BW BV AJ AQ AV FC CK AN AL GH HG FX FQ AM HE DK ID DR GO BX CG DO BC HS DX HH CE CS LZ rA HQ DZ KF JB ED HO BR EO PF LG IM IH SX MU JM RV DT LB QV LJ VQ HF MQ EI LV Lw DI OU HZ IR BZ IQ NP GM PP TK HX FV KV DG IN Nn KM lH TL FF JF UT SD ZZ PY YY Jy Yv Ef ZD WB NG Gy NR SH kD Ww Cb XP Gk TV Jc Qw Pt Vy Mq Jk Ps Us Qt eU; simp only [CC, eq_self, implies_true, forall_const]
 have hA : (bif bif decide ((c.ms.length : Int) < 1) then true else decide ((c.ms.length : Int) > 40) then true else decide ((c.ns.length : Int) > 20)) = bif !TD c.ms.length 1 40 then true else decide ((c.ns.length : Int) > 20) := by
  unfold TD
  by_cases h1 : (1 : Int) <= c.ms.length <;> by_cases h2 : (c.ms.length : Int) <= 40 <;> simp [h1, h2] <;> omega
 simp only [hA]
 have k0 : ∀ v : Int, v ≠ 0 -> VU c = 0 -> iZ (-1) c.ms = v -> AI c = v := λ v hv e hm => by
  have hv0 := hv
  have hv' : (v != 0) = true := by simpa using hv
  unfold AI; rw [e, hm, hv']; rfl
 refine ⟨λ h1 => ?_, λ h1 => ⟨λ h2 => ?_, λ h2 => ?_⟩⟩
 ·have e : VU c = 3 := by unfold VU; rw [h1]; rfl
  unfold AI; rw [e]; rfl
 ·have e : VU c = 30 := by unfold VU; rw [h1, h2]; rfl
  unfold AI; rw [e]; rfl
 have e : VU c = 0 := by unfold VU; rw [h1, h2]; rfl
 have hl : 1 <= c.ms.length /\ c.ms.length <= 40 /\ c.ns.length <= 20 := by
  obtain ⟨q1, q2, _⟩ := P9.1 e; exact ⟨q1.1, q1.2, q2⟩
 refine ⟨⟨0, rfl, Nat.zero_le _, e, rfl⟩, λ k ⟨s1, _, s3⟩ => ⟨λ hlt => ?_, λ hge => ?_⟩⟩
 ·have hlt : k < c.ms.length := by omega
  have hd := AAA hlt
  have s4 := s3
  rw [hd] at s3
  have hpr : ∀ v, TD (gD c.ms k).pl 0 10000 = true -> (bif decide ((k : Int) > 0) then decide ((gD c.ms k).pl <= (gD c.ms (IntKind.i64.wrap ((k : Int) - 1)).toNat).pl) else false) = v -> decide ((gD c.ms k).pl <= prvP c k) = v := by
   intro v hi hv
   rw [<- hv]
   rcases k with _ | k
   ·have := (KJ.1 hi).1
    rw [decide_eq_false (show ¬ (gD c.ms 0).pl <= prvP c 0 by show ¬ _ <= (-1 : Int); omega)]; rfl
   ·rw [show IntKind.i64.wrap (((k + 1 : Nat) : Int) - 1) = (k : Int) from by rw [TC (by omega) (by omega)]; omega, decide_eq_true (show ((k + 1 : Nat) : Int) > 0 by omega)]
    rfl
  refine ⟨⟨by omega, λ _ => by omega⟩, λ h3 => ?_, λ h3 => ⟨⟨λ h => by omega, λ h => ?_⟩, λ h4 => ?_, λ h4 => ⟨k + 1, (HL (by omega)).symm, ⟨by omega, e, ?_⟩, by omega⟩⟩⟩
  ·exact k0 30 (by decide) e (by rw [<- s3]; unfold iZ; rw [h3]; rfl)
  ·rw [show IntKind.i64.wrap ((k : Int) - 1) = (k : Int) - 1 from TC (by omega) (by omega)]; omega
  ·have hi : TD (gD c.ms k).pl 0 10000 = true := by
    cases hc : TD (gD c.ms k).pl 0 10000 with
    | true => rfl
    | false => rw [hc] at h3; cases h3
   exact k0 9 (by decide) e (by rw [<- s3]; unfold iZ; rw [h3, hpr _ hi h4]; rfl)
  ·have hi : TD (gD c.ms k).pl 0 10000 = true := by
    cases hc : TD (gD c.ms k).pl 0 10000 with
    | true => rfl
    | false => rw [hc] at h3; cases h3
   rw [<- s3]; conv => rhs; unfold iZ
   rw [h3, hpr _ hi h4]; rfl
 ·have hmk : iZ (-1) c.ms = 0 := by rw [<- s3, List.drop_of_length_le (by omega)]; rfl
  refine ⟨⟨0, rfl, Nat.zero_le _, e, hmk, rfl⟩, λ k ⟨k1, _, _, k4⟩ => ⟨λ hlt => ?_, λ hge => ?_⟩⟩
  ·have hlt : k < c.ns.length := by omega
   have hr : ∀ v, (bif bif !TD (gD c.ns k).mi 0 (IntKind.i64.wrap ((c.ms.length : Int) - 1)) then true else !UG (gD c.ns k).t 0 10000000 then true else !UG (gD c.ns k).s (-3000000) 3000000) = v -> rgt c k = !v := by
    intro v hv
    rw [<- hv]; unfold rgt RG wr
    cases TD (gD c.ns k).mi 0 (IntKind.i64.wrap ((c.ms.length : Int) - 1)) <;> cases UG (gD c.ns k).t 0 10000000 <;> cases UG (gD c.ns k).s (-3000000) 3000000 <;> rfl
   refine ⟨by omega, λ h3 => ?_, λ h3 => ⟨k + 1, (HL (by omega)).symm, ⟨by omega, e, hmk, ?_⟩, by omega⟩⟩
   ·have := Tq hlt (hr _ h3)
    unfold AI; rw [e, hmk, AOV, this]; rfl
   ·show (WZ (rgt c) k && rgt c k) = true
    rw [k4, hr _ h3]; rfl
  ·obtain rfl : k = c.ns.length := by omega
   refine ⟨⟨0, rfl, Nat.zero_le _, e, hmk, k4, rfl⟩, λ i ⟨i1, _, _, _, i5⟩ => ⟨λ hlt => ⟨⟨⟨i, 0⟩, ⟨rfl, rfl⟩, ⟨by show i < _; omega, rfl, Nat.zero_le _⟩, e, hmk, k4, i5, rfl⟩, λ s ⟨⟨s1, s2, s3⟩, _, _, _, s7, s8⟩ => ⟨λ hj => ?_, λ hj => ?_⟩⟩, λ hge2 => ?_⟩⟩
   ·have hj : s.j < s.i := by omega
    refine ⟨⟨by omega, by omega⟩, λ h4 => ?_, λ h4 => ⟨⟨s.i, s.j + 1⟩, ⟨rfl, (HL (by omega)).symm⟩, ⟨⟨s1, s2, by show s.j + 1 <= s.i; omega⟩, e, hmk, k4, s7, ?_⟩, by show s.i - (s.j + 1) < s.i - s.j; omega⟩⟩
    ·have hd : iY c.ns s.i = false := by
      rw [BAR s1]; exact Tq hj (by unfold zEq; rw [h4]; rfl)
     have := Tq s1 hd
     unfold AI; rw [e, hmk, AOV, k4, this]; rfl
    ·show (WZ (zEq c s.i) s.j && zEq c s.i s.j) = true
     rw [s8]; unfold zEq; rw [h4]; rfl
   ·have hj : s.j = s.i := by omega
    refine ⟨s.i + 1, (HL (by omega)).symm, ⟨by omega, e, hmk, k4, ?_⟩, by omega⟩
    show (WZ (iY c.ns) s.i && iY c.ns s.i) = true
    rw [hj] at s8
    rw [s7, BAR s1, s8]; rfl
   ·obtain rfl : i = c.ns.length := by omega
    unfold AI; rw [e, hmk, AOV, k4, i5]; rfl
theorem bY : AK Try.prog Ph (C_Check.spec aM) := VV C_Check AQW [] [] BCC (λ _ => by kernel_rfl) (λ _ => AA APW (AA BNW AC)) BEX (λ _ => WY rfl rfl) _
structure CtI where
 c : Cht
 k : Int
def dCtI : List AVal -> Heap -> Option (CtI × List (Nat × Nat) × List Nat)
 | [x, .d k], H => match kV x H with
  | some (c, f) => some (⟨c, HJ k⟩, [], f)
  | none => none
 | _, _ => none
def stN (c : Cht) (m : Int) : Nat -> Span
 | 0 => st0 c m
 | k + 1 => bif (gD c.ns k).mi == m then iV (stN c m k) (gD c.ns k).s else stN c m k
def C_zst : Ctr := { α := CtI, xs := λ a => [.d (Ak a.c), .int a.k], val := λ a => .d (IK (bT a.c a.k)), keep := λ _ => [], pre := λ a => [(0 <= a.k /\ a.k < a.c.ms.length) /\ AI a.c = 0] }
def zs4 (a : CtI) : Shape := { α := NS, dflt := default, T := λ s => ⟨[(1, .int a.k), (2, .bptr 201 0), (4, .bptr 202 0), (6, .bptr 203 0), (7, .int s.k)], [(201, .live (gI a.c)), (202, .live (.box [.int 0, .int 0])), (203, .live (.box [.int s.m.lo, .int s.m.hi]))]⟩, inv := λ s => s.k <= a.c.ns.length /\ s.m = stN a.c a.k s.k, meas := λ s => a.c.ns.length - s.k, first := [(201, 1000), (202, 1016), (203, 3144)] }
def BSJ (a : CtI) : Ann := { ann 67 [] with loops := λ id => if id = 4 then some [zs4 a] else none }
def BQY (a : CtI) : Prop := CF Try.prog (BSJ a) G1 (AH G1) (C_zst.xs a) (AB []) (C_zst.val a) [] [] []
abbrev Ex:=CtI.k
abbrev OA:=CtI.c
attribute [go_sem] Ex OA
theorem BVD (a : CtI) : (BQY a) = (SP (Ex a) (AU (OA a)) (hd25 (λ i=>TV (AE (Ex a)) (BZ (WK i)) (IQ (OA a) (Sg (DI (OA a)) DJ (BO (Sw i) (GO (F2 (OA a) (Ex a)) (HK (OA a)))) (AZ (Sw i) (GH (F2 (OA a) (Ex a)) (HK (OA a)))))) (Jk (WK i) (OA a)) (aH i (stN (OA a) (Ex a) (WK i))))) (hd44 (λ i=>NR (Jc (WK i) (OA a) (aH i (stN (OA a) (Ex a) (WK i)))) (WK i) (KV (OA a)) (FF (WK i) (AO (OA a)) (Gm (Ey (BW (OA a) (WK i)) (Ex a)) (HF (BE (WK i)) (AO (OA a))) (hd25 (λ j=>DW (AD (AE (Ex a)) (BR (WK j) (WK i)) (IQ (OA a) (Sg (DI (OA a)) DJ (BO (Sw j) (Ox (BI (Sw i)) (BI (BK (OA a) (WK i))))) (AZ (Sw j) (jN (BF (Sw i)) (BF (BK (OA a) (WK i)))))))) (Jc (WK j) (OA a) (aH j (stN (OA a) (Ex a) (WK j)))) (AO (OA a)) (WK j) (WK i))) (hd25 (λ j=>DW (AD (AE (Ex a)) (BR (WK j) (WK i)) (IQ (OA a) (Sg (DI (OA a)) DJ (BJ (Sw j) (Sw i)) (AW (Sw j) (Sw i))))) (Jc (WK j) (OA a) (aH j (stN (OA a) (Ex a) (WK j)))) (AO (OA a)) (WK j) (WK i))))) (And (BJ (Ld (OA a) (Ex a)) (Sw i)) (AW (Ld (OA a) (Ex a)) (Sw i)))))) := by kernel_rfl
theorem AWV {c : Cht} {m : Int} : ∀ k, (∀ i, i < k -> (gD c.ns i).mi ≠ m) -> stN c m k = st0 c m
 | 0, _ => rfl
 | k + 1, h => by
  show (bif (gD c.ns k).mi == m then _ else _) = _
  rw [show ((gD c.ns k).mi == m) = false by simpa using h k (Nat.lt_succ_self _)]
  exact AWV k λ i hi => h i (by omega)
theorem BEO {c : Cht} (h : ChOk c) {m : Int} {j : Nat} (hm : (gD c.ns j).mi = m) : ∀ k, j < k -> k <= c.ns.length -> stN c m k = iV (st0 c m) (gD c.ns j).s
 | 0, h1, _ => absurd h1 (Nat.not_lt_zero _)
 | k + 1, h1, h2 => by
  show (bif (gD c.ns k).mi == m then _ else _) = _
  by_cases e : j = k
  ·subst e
   rw [show ((gD c.ns j).mi == m) = true by simpa using hm]
   show iV (stN c m j) _ = _
   rw [AWV j λ i hi e => h.one i j hi (by omega) (by rw [e, hm])]
  ·rw [show ((gD c.ns k).mi == m) = false by simpa using λ e2 => h.one j k (by omega) (by omega) (by rw [e2, hm])]
   exact BEO h hm k (by omega) (by omega)
theorem BLO {c : Cht} (h : ChOk c) (m : Int) : stN c m c.ns.length = bT c m := by
 unfold bT
 cases hq : hasN c.ns m with
 | false =>
  refine AWV _ λ i hi e => ?_
  have := Ty.2 ⟨gD c.ns i, HW hi, e⟩
  rw [hq] at this; cases this
 | true =>
  obtain ⟨q1, q2⟩ := cL hq
  obtain ⟨j, hj, e⟩ := OV q1
  show _ = iV (st0 c m) (ntOf c.ns m).s
  rw [BEO h (j := j) (by rw [e]; exact q2) _ hj (Nat.le_refl _), e]
theorem BZK (a : CtI) (h : (0 <= a.k /\ a.k < a.c.ms.length) /\ AI a.c = 0) : BQY a := by
 obtain ⟨hk, h0⟩ := h
 have hc := MA.1 h0
 have hn := hc.n
 rw [BVD]<;> delta BI BF EN MM ON Ep EB EA hd25 BY AF CN CO AS BE WK Sw XB EU hd40 hd44 EC JL FY MN NT Ox jN LS ET GW FK HV IB HK GV FU HC DV FW EY Ey EP Bu Ld Ex OA AD CI AU AG AZ AX AE BM YO Sg AW BL BD AO AR DD BA BK BO BJ CX HI BW BV AJ AQ AV FC CK AN AL GH HG FX FQ AM HE DK ID DR GO BX CG DO BC HS DX HH CE HQ DZ JB BR EO PF LG IH SX MU UD JM RV iJ DJ VQ HF MQ EI LV DI BZ DW IQ TK KV TL FF SP ZD Gm NR TV Jc Jk F2 aH; simp only [CC, eq_self, implies_true, forall_const]
 refine ⟨hk, ⟨⟨0, st0 a.c a.k⟩, ⟨rfl, rfl, rfl⟩, Nat.zero_le _, rfl⟩, λ s ⟨s1, s2⟩ => ⟨λ hlt => ?_, λ hge => ?_⟩⟩
 ·have hlt : s.k < a.c.ns.length := by omega
  refine ⟨by omega, λ h3 => ⟨by omega, by omega, ⟨s.k + 1, iV s.m (gD a.c.ns s.k).s⟩, ⟨(HL (by omega)).symm, rfl, rfl⟩, ⟨by show s.k + 1 <= _; omega, ?_⟩, by show a.c.ns.length - (s.k + 1) < _; omega⟩, λ h3 => ⟨⟨s.k + 1, s.m⟩, ⟨(HL (by omega)).symm, rfl, rfl⟩, ⟨by show s.k + 1 <= _; omega, ?_⟩, by show a.c.ns.length - (s.k + 1) < _; omega⟩⟩
  ·show iV s.m _ = bif (gD a.c.ns s.k).mi == a.k then _ else _
   rw [h3, s2]; rfl
  ·show s.m = bif (gD a.c.ns s.k).mi == a.k then _ else _
   rw [h3, s2]; rfl
 ·have e : s.k = a.c.ns.length := by omega
  rw [s2, e, BLO hc]; exact ⟨rfl, rfl⟩
theorem BXQ : AK Try.prog I9 (C_zst.spec dCtI) := VV C_zst BSJ [] [] AWB (λ _ => by kernel_rfl) (λ _ => AC) (λ a h => BZK a h) (λ _ => WY rfl rfl) _
end Go.Bal

namespace Go.Bal
open Go Go.Sym Go.Proofs
theorem J9 {m : Int} (hm : 1 <= m /\ m <= 1000) : ∀ (z : List Int) (a : Int), -1 <= a -> a <= 1000 -> (Fj m a z = true ↔ (∀ g ∈ z, a < g /\ g + 1 < m) /\ z.Pairwise (· < ·))
 | [], a, _, _ => ⟨λ _ => ⟨λ g h => (by cases h), .nil⟩, λ _ => rfl⟩
 | g :: r, a, h1, h2 => by
  show (bif TD g (wr (a + 1)) (wr (m - 2)) then Fj m g r else false) = true ↔ _
  have e1 : wr (a + 1) = a + 1 := TC (by omega) (by omega)
  have e2 : wr (m - 2) = m - 2 := TC (by omega) (by omega)
  rw [e1, e2]
  cases hi : TD g (a + 1) (m - 2) with
  | false =>
   refine ⟨λ h => (by cases h), λ h => ?_⟩
   have := h.1 g (List.mem_cons_self ..)
   rw [KJ.2 (by omega)] at hi; cases hi
  | true =>
   have hb := KJ.1 hi
   have ih := J9 hm r g (by omega) (by omega)
   show Fj m g r = true ↔ _
   rw [ih, List.pairwise_cons]
   constructor
   ·rintro ⟨q1, q2⟩
    refine ⟨λ x hx => ?_, λ x hx => (q1 x hx).1, q2⟩
    rcases List.mem_cons.1 hx with rfl | hx
    ·omega
    ·have := q1 x hx; omega
   ·rintro ⟨q1, q2, q3⟩
    exact ⟨λ x hx => ⟨q2 x hx, (q1 x (List.mem_cons_of_mem _ hx)).2⟩, q3⟩
theorem AXS {m : Int} : ∀ (z : List Int) (a : Int) (f : Nat -> Bool) (j : Nat), -1 <= a -> a <= 1000 -> 1 <= m /\ m <= 1000 -> Fj m a z = true -> (mR m a z f j = true ↔ f j = true ∨ (j : Int) ∈ z)
 | [], a, f, j, _, _, _, _ => ⟨λ h => .inl h, λ h => h.elim id λ h => (by cases h)⟩
 | g :: r, a, f, j, h1, h2, hm, h => by
  have hh := (J9 hm (g :: r) a h1 h2).1 h
  have hg := hh.1 g (List.mem_cons_self ..)
  have h : (bif TD g (wr (a + 1)) (wr (m - 2)) then Fj m g r else false) = true := h
  show (bif TD g (wr (a + 1)) (wr (m - 2)) then mR m g r (λ i => bif decide (i = g.toNat) then true else f i) j else f j) = true ↔ _
  cases hi : TD g (wr (a + 1)) (wr (m - 2)) with
  | false => rw [hi] at h; cases h
  | true =>
   rw [hi] at h
   show mR m g r (λ i => bif decide (i = g.toNat) then true else f i) j = true ↔ _
   rw [AXS r g _ j (by omega) (by omega) hm h, List.mem_cons]
   by_cases e : j = g.toNat
   ·rw [decide_eq_true e]
    exact ⟨λ _ => .inr (.inl (by omega)), λ _ => .inl rfl⟩
   ·rw [decide_eq_false e]
    have : ¬ (j : Int) = g := by omega
    constructor
    ·rintro (q | q)
     ·exact .inl q
     ·exact .inr (.inr q)
    ·rintro (q | q | q)
     ·exact .inl q
     ·exact absurd q this
     ·exact .inr q
theorem AXN {a : CZ} (h : 1 <= a.c.ms.length /\ a.c.ms.length <= 40) : V6 a = true ↔ (∀ g ∈ a.z, 0 <= g /\ g + 1 < a.c.ms.length) /\ a.z.Pairwise (· < ·) := by
 unfold V6
 rw [J9 (by omega) _ _ (by omega) (by omega)]
 exact ⟨λ q => ⟨λ g hg => by have := q.1 g hg; omega, q.2⟩, λ q => ⟨λ g hg => by have := q.1 g hg; omega, q.2⟩⟩
theorem ALY {a : CZ} (h : 1 <= a.c.ms.length /\ a.c.ms.length <= 40) (hz : V6 a = true) (j : Nat) : (KB a).sp j = true ↔ (j : Int) ∈ a.z := by
 show mR a.c.ms.length (-1) a.z (λ _ => false) j = true ↔ _
 rw [AXS a.z (-1) _ j (by omega) (by omega) (by omega) hz]
 exact ⟨λ q => q.elim (λ q => by cases q) id, .inr⟩
end Go.Bal
