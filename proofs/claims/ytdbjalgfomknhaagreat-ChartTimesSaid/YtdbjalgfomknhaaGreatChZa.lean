/- Package chart, with the reference: Check, stages of a mark. -/
import Derived.Test.YtdbjalgfomknhaaGreatChZn
import Derived.Test.YtdbjalgfomknhaaGreatChM
import Derived.Test.YtdbjalgfomknhaaGreatChT4
set_option linter.unusedVariables false
set_option linter.unusedSimpArgs false
namespace Go.Bal
open Go Go.Sym Go.Proofs
def BAM (x : I3) : Prop := CH Try.prog (ann 15 []) ASR (AH ASR) (xI3 x) (AB []) (.bool (!KT x.a x.b x.c)) [] [] []
theorem BJX (x : I3) : (BAM x) = (KH (Cr (I3.a x) (I3.b x) (I3.c x)) (IF (JH (I3.a x) (I3.b x)) (JM (I3.a x) (I3.c x)))) := by kernel_rfl
def L6 := pD dI3 λ x => .bool (!KT x.a x.b x.c)
theorem AAG : AJ Try.prog tM L6 := Kr xI3 hI3 λ x _ => Hp (A := ann 15 []) (ren := []) (fz := []) BMP (by kernel_rfl) AC (by
 show BAM x; rw [BJX]<;> delta KH wN JH JL JM IF Cr
 unfold KT; by_cases h : x.b <= x.a <;> by_cases h2 : x.a <= x.c <;> simp [h, h2] <;> omega)
def BHK (x : SII) : Prop := CH Try.prog (ann 24 []) K7 (AH K7) (xSII x) (AB []) (.bool (!UQ x.s x.a x.b)) [] [] []
theorem BLD (x : SII) : (BHK x) = (KH (not (hd9 (Z6 x) (SII.a x) (SII.b x))) (An (JH (BG (Z6 x)) (SII.a x)) (JM (BJ (Z6 x)) (SII.b x)) (JM (BG (Z6 x)) (BJ (Z6 x))))) := by kernel_rfl
def BBM := pD dSII λ x => .bool (!UQ x.s x.a x.b)
theorem BLF : AJ Try.prog R8 BBM := Kr xSII hSII λ x _ => Hp (A := ann 24 []) (ren := []) (fz := []) ATA (by kernel_rfl) AC (by
 show BHK x; rw [BLD]<;> delta KH wN hd9 Z6 BG BJ JH JL JM IF An
 unfold UQ KT
 by_cases h1 : x.a <= x.s.lo <;> by_cases h2 : x.s.lo <= x.b <;> by_cases h3 : x.s.lo <= x.s.hi <;> by_cases h4 : x.s.hi <= x.b <;> simp [h1, h2, h3, h4] <;> omega)
def prvP (c : Cht) : Nat -> Int
 | 0 => -1
 | k + 1 => (gD c.ms k).pl
def rgt (c : Cht) (k : Nat) : Bool := RF (gD c.ns k) c.ms.length
def zEq (c : Cht) (i k : Nat) : Bool := !((gD c.ns i).mi == (gD c.ns k).mi)
def zk6 (c : Cht) : Shape := { α := Nat, dflt := 0, T := λ k => ⟨[(1, .bptr 201 0), (3, .int k)], [(201, .live (sJ c))]⟩, inv := λ k => k <= c.ms.length /\ TA c = 0 /\ fP (prvP c k) (c.ms.drop k) = fP (-1) c.ms, meas := λ k => c.ms.length - k, first := [(201, 1000)] }
def zk13 (c : Cht) : Shape := { α := Nat, dflt := 0, T := λ k => ⟨[(1, .bptr 201 0), (4, .int k)], [(201, .live (sJ c))]⟩, inv := λ k => k <= c.ns.length /\ TA c = 0 /\ fP (-1) c.ms = 0 /\ Rq (rgt c) k = true, meas := λ k => c.ns.length - k }
def zk19 (c : Cht) : Shape := { α := Nat, dflt := 0, T := λ k => ⟨[(1, .bptr 201 0), (6, .int k)], [(201, .live (sJ c))]⟩, inv := λ k => k <= c.ns.length /\ TA c = 0 /\ fP (-1) c.ms = 0 /\ Rq (rgt c) c.ns.length = true /\ Rq (hY c.ns) k = true, meas := λ k => c.ns.length - k }
def zk22 (c : Cht) (m : Nat) : Shape := { α := IJ, dflt := default, T := λ s => ⟨[(1, .bptr 201 0), (6, .int s.i), (7, .int s.j)], [(201, .live (sJ c))]⟩, inv := λ s => (s.i < c.ns.length /\ c.ns.length - s.i = m /\ s.j <= s.i) /\ TA c = 0 /\ fP (-1) c.ms = 0 /\ Rq (rgt c) c.ns.length = true /\ Rq (hY c.ns) s.i = true /\ Rq (zEq c s.i) s.j = true, meas := λ s => s.i - s.j }
def APY (c : Cht) : Ann := { ann 137 [(tM, L6), (R8, BBM)] with loops := λ id => if id = 6 then some [zk6 c] else if id = 13 then some [zk13 c] else if id = 19 then some [zk19 c] else none, inner := λ gs id => if id = 22 then some [zk22 c (gs.getD 0 0)] else none }
def AQN (c : Cht) : Prop := CH Try.prog (APY c) AEN (AH AEN) (C_Check.xs c) (AB []) (C_Check.val c) [] [] []
abbrev Vw a b:=mD (rgt a) b
abbrev Ik a:=FY (ME a)
abbrev Bp a:=XX a 0
attribute [go_sem] Vw Ik Bp
theorem AYK (c : Cht) : (AQN c) = (Pj (An (JH (IV c) 1) (JM (IV c) 40) (XX (AN c) 20)) c 3 (Pj (IF (An (not (hd9 (EX c) 1 600)) (Cr (HP c) (-1000000) 1000000) (WH (HN c) 1000)) (WH (HJ c) 1000)) c 30 (DP (λ i=>AO (Ez (BR i) c) (Nw i c) (VZ c) (AR (fP (prvP c i) (yC i (GW c))) (bP c))) (λ i=>GC (AE (Nw i c) (VZ c) (AR (fP (prvP c i) (yC i (GW c))) (bP c))) i (IV c) (And (FR i (BB c)) (Ko (WH (CE c i) 10000) (FR i (BB c)))) (Pj (IF (WH (CE c i) 10000) (WH (CP c i) 1000)) c 30 (HG (And (HF (Bp i) (FR i (BB c))) (NU (Bp i) (ME i) (BB c))) (ER (Bp i) (hd7 (CE c i) (CE c (Ik i)))) (Hs c 9) (GN (λ j=>EB (Ez (BD j i) c) (AE (Nw j c) (VZ c) (AR (fP (prvP c j) (yC j (GW c))) (bP c))) (BB c) j i)))) (DP (λ j=>AF (Ez (BR j) c) (XK j c) (VZ c) (Iv c) (Vw c j)) (λ j=>GQ (AO (XK j c) (VZ c) (Iv c) (Vw c j)) j (AN c) (YZ j c) (Pj (An (WH (BS c j) (Fv c)) (not (hd9 (CJ c j) 0 10000000)) (not (hd9 (BY c j) (-3000000) 3000000))) c 30 (GN (λ k=>EB (Ez (BD k j) c) (AO (XK k c) (VZ c) (Iv c) (Vw c k)) (AN c) k j))) (DP (λ k=>EW (Ez (BR k) c) (XK k c) (VZ c) (Iv c) (Vw c (AN c)) (Tz c k)) (λ k=>GQ (AF (XK k c) (VZ c) (Iv c) (Vw c (AN c)) (Tz c k)) k (AN c) (dB (λ l=>HU (Sh l k) (BR (IA l)) (GR c) (AE (Sy l c) (Ty c l c k) (Tm l l)) (AF (VZ c) (Iv c) (Vw c (AN c)) (Tz c (HH l)) (mD (zEq c (HH l)) (IA l))))) (Y7 (λ l=>GQ (EW (AE (Sy l c) (Ty c l c k) (Tm l l)) (VZ c) (Iv c) (Vw c (AN c)) (Tz c (HH l)) (mD (zEq c (HH l)) (IA l))) (IA l) (HH l) (PR (YZ (HH l) c) (Yg l) (AN c)) (Pj (Dx (BS c (HH l)) (BS c (IA l))) c 10 (dB (λ m=>LB (AE (No m l) (BD (IA m) (IA l)) (GR c)) (EW (AE (Sy m c) (Ty c m c k) (Tm m m)) (VZ c) (Iv c) (Vw c (AN c)) (Tz c (HH m)) (mD (zEq c (HH m)) (IA m))) (HH m) (IA m) (HH l) (IA l)))) (GN (λ m=>EB (Ez (BD m (HH l)) c) (AF (XK m c) (VZ c) (Iv c) (Vw c (AN c)) (Tz c m)) (AN c) m k)))) (KP c))))))))) := by kernel_rfl
theorem AWJ {c : Cht} {i : Nat} (hi : i < c.ns.length) : hY c.ns i = Rq (zEq c i) i := by
 rw [Bool.eq_iff_iff, ADB hi, Qv]
 unfold zEq
 simp only [Bool.not_eq_true', beq_eq_false_iff_ne]
 exact ⟨λ h j hj e => h j hj e.symm, λ h j hj e => h j hj e.symm⟩
theorem ALT (c : Cht) : c.ns.all (λ n => RF n c.ms.length) = Rq (rgt c) c.ns.length := by
 rw [Bool.eq_iff_iff, List.all_eq_true, Qv]
 constructor
 ·intro h i hi; exact h _ (TY hi)
 ·intro h n hn
  obtain ⟨i, hi, rfl⟩ := YH hn
  exact h i hi
theorem AZV (c : Cht) (h : c.ms.length < 4611686018427387904 /\ c.ns.length < 4611686018427387904) : AQN c := by
 obtain ⟨hm, hn⟩ := h
 rw [AYK]<;> delta KH wN hd7 ZR hd9 BG BJ EC MM NO Hc ES ET BW AD BU CL AR BZ DJ EK JH HO KB NL LO EJ GW EX HP HN HJ GT GB HC DU GG FE GN Dx JL JM PW yC FY dB HH IA Y7 AE CR BB AF AY AU AG BC AX BM CJ AK AN DD BH BY CX CY BS CE HQ AV AQ EV DW AZ CP AS FS DM AP AT CN BX GI CM HD CG GP GU DS FH AO CK CD EO IV KM HF PV JB DZ BD FR IW DX VT LB EW IQ HS HB EB BK LV ME Yb GM IF KP BR RM HU GC DP NP GR UZ HG ER Af PR Cr mD XX VZ GQ Hs NU bP Xi An Sh Yq XK hU Iv WH Ik Bp YZ Ez Tm No Tz Nw Fv Yg Sy Vw Pj Ko Ty; simp only [CC, eq_self, implies_true, forall_const]
 have hA : (bif bif decide ((c.ms.length : Int) < 1) then true else decide ((c.ms.length : Int) > 40) then true else decide ((c.ns.length : Int) > 20)) = bif !KT c.ms.length 1 40 then true else decide ((c.ns.length : Int) > 20) := by
  unfold KT
  by_cases h1 : (1 : Int) <= c.ms.length <;> by_cases h2 : (c.ms.length : Int) <= 40 <;> simp [h1, h2] <;> omega
 simp only [hA]
 have k0 : ∀ v : Int, v ≠ 0 -> TA c = 0 -> fP (-1) c.ms = v -> AM c = v := λ v hv e hm => by
  have hv0 := hv
  have hv' : (v != 0) = true := by simpa using hv
  unfold AM; rw [e, hm, hv']; rfl
 refine ⟨λ h1 => ?_, λ h1 => ⟨λ h2 => ?_, λ h2 => ?_⟩⟩
 ·have e : TA c = 3 := by unfold TA; rw [h1]; rfl
  unfold AM; rw [e]; rfl
 ·have e : TA c = 30 := by unfold TA; rw [h1, h2]; rfl
  unfold AM; rw [e]; rfl
 have e : TA c = 0 := by unfold TA; rw [h1, h2]; rfl
 have hl : 1 <= c.ms.length /\ c.ms.length <= 40 /\ c.ns.length <= 20 := by
  obtain ⟨q1, q2, _⟩ := L0.1 e; exact ⟨q1.1, q1.2, q2⟩
 refine ⟨⟨0, rfl, Nat.zero_le _, e, rfl⟩, λ k ⟨s1, _, s3⟩ => ⟨λ hlt => ?_, λ hge => ?_⟩⟩
 ·have hlt : k < c.ms.length := by omega
  have hd := AAL hlt
  have s4 := s3
  rw [hd] at s3
  have hpr : ∀ v, KT (gD c.ms k).pl 0 10000 = true -> (bif decide ((k : Int) > 0) then decide ((gD c.ms k).pl <= (gD c.ms (IntKind.i64.wrap ((k : Int) - 1)).toNat).pl) else false) = v -> decide ((gD c.ms k).pl <= prvP c k) = v := by
   intro v hi hv
   rw [<- hv]
   rcases k with _ | k
   ·have := (GX.1 hi).1
    rw [decide_eq_false (show ¬ (gD c.ms 0).pl <= prvP c 0 by show ¬ _ <= (-1 : Int); omega)]; rfl
   ·rw [show IntKind.i64.wrap (((k + 1 : Nat) : Int) - 1) = (k : Int) from by rw [Bc (by omega) (by omega)]; omega, decide_eq_true (show ((k + 1 : Nat) : Int) > 0 by omega)]
    rfl
  refine ⟨⟨by omega, λ _ => by omega⟩, λ h3 => ?_, λ h3 => ⟨⟨λ h => by omega, λ h => ?_⟩, λ h4 => ?_, λ h4 => ⟨k + 1, (HY (by omega)).symm, ⟨by omega, e, ?_⟩, by omega⟩⟩⟩
  ·exact k0 30 (by decide) e (by rw [<- s3]; unfold fP; rw [h3]; rfl)
  ·rw [show IntKind.i64.wrap ((k : Int) - 1) = (k : Int) - 1 from Bc (by omega) (by omega)]; omega
  ·have hi : KT (gD c.ms k).pl 0 10000 = true := by
    cases hc : KT (gD c.ms k).pl 0 10000 with
    | true => rfl
    | false => rw [hc] at h3; cases h3
   exact k0 9 (by decide) e (by rw [<- s3]; unfold fP; rw [h3, hpr _ hi h4]; rfl)
  ·have hi : KT (gD c.ms k).pl 0 10000 = true := by
    cases hc : KT (gD c.ms k).pl 0 10000 with
    | true => rfl
    | false => rw [hc] at h3; cases h3
   rw [<- s3]; conv => rhs; unfold fP
   rw [h3, hpr _ hi h4]; rfl
 ·have hmk : fP (-1) c.ms = 0 := by rw [<- s3, List.drop_of_length_le (by omega)]; rfl
  refine ⟨⟨0, rfl, Nat.zero_le _, e, hmk, rfl⟩, λ k ⟨k1, _, _, k4⟩ => ⟨λ hlt => ?_, λ hge => ?_⟩⟩
  ·have hlt : k < c.ns.length := by omega
   have hr : ∀ v, (bif bif !KT (gD c.ns k).mi 0 (IntKind.i64.wrap ((c.ms.length : Int) - 1)) then true else !UQ (gD c.ns k).t 0 10000000 then true else !UQ (gD c.ns k).s (-3000000) 3000000) = v -> rgt c k = !v := by
    intro v hv
    rw [<- hv]; unfold rgt RF wr
    cases KT (gD c.ns k).mi 0 (IntKind.i64.wrap ((c.ms.length : Int) - 1)) <;> cases UQ (gD c.ns k).t 0 10000000 <;> cases UQ (gD c.ns k).s (-3000000) 3000000 <;> rfl
   refine ⟨by omega, λ h3 => ?_, λ h3 => ⟨k + 1, (HY (by omega)).symm, ⟨by omega, e, hmk, ?_⟩, by omega⟩⟩
   ·have := pC hlt (hr _ h3)
    unfold AM; rw [e, hmk, ALT, this]; rfl
   ·show (Rq (rgt c) k && rgt c k) = true
    rw [k4, hr _ h3]; rfl
  ·obtain rfl : k = c.ns.length := by omega
   refine ⟨⟨0, rfl, Nat.zero_le _, e, hmk, k4, rfl⟩, λ i ⟨i1, _, _, _, i5⟩ => ⟨λ hlt => ⟨⟨⟨i, 0⟩, ⟨rfl, rfl⟩, ⟨by show i < _; omega, rfl, Nat.zero_le _⟩, e, hmk, k4, i5, rfl⟩, λ s ⟨⟨s1, s2, s3⟩, _, _, _, s7, s8⟩ => ⟨λ hj => ?_, λ hj => ?_⟩⟩, λ hge2 => ?_⟩⟩
   ·have hj : s.j < s.i := by omega
    refine ⟨⟨by omega, by omega⟩, λ h4 => ?_, λ h4 => ⟨⟨s.i, s.j + 1⟩, ⟨rfl, (HY (by omega)).symm⟩, ⟨⟨s1, s2, by show s.j + 1 <= s.i; omega⟩, e, hmk, k4, s7, ?_⟩, by show s.i - (s.j + 1) < s.i - s.j; omega⟩⟩
    ·have hd : hY c.ns s.i = false := by
      rw [AWJ s1]; exact pC hj (by unfold zEq; rw [h4]; rfl)
     have := pC s1 hd
     unfold AM; rw [e, hmk, ALT, k4, this]; rfl
    ·show (Rq (zEq c s.i) s.j && zEq c s.i s.j) = true
     rw [s8]; unfold zEq; rw [h4]; rfl
   ·have hj : s.j = s.i := by omega
    refine ⟨s.i + 1, (HY (by omega)).symm, ⟨by omega, e, hmk, k4, ?_⟩, by omega⟩
    show (Rq (hY c.ns) s.i && hY c.ns s.i) = true
    rw [hj] at s8
    rw [s7, AWJ s1, s8]; rfl
   ·obtain rfl : i = c.ns.length := by omega
    unfold AM; rw [e, hmk, ALT, k4, i5]; rfl
theorem rA : AJ Try.prog dA (C_Check.spec kM) := XP C_Check APY [] [] AYI (λ _ => by kernel_rfl) (λ _ => AA AAG (AA BLF AC)) AZV (λ _ => YS rfl rfl) _
structure CtI where
 c : Cht
 k : Int
def dCtI : List AVal -> Heap -> Option (CtI × List (Nat × Nat) × List Nat)
 | [x, .d k], H => match nM x H with
  | some (c, f) => some (⟨c, HK k⟩, [], f)
  | none => none
 | _, _ => none
def stN (c : Cht) (m : Int) : Nat -> Span
 | 0 => st0 c m
 | k + 1 => bif (gD c.ns k).mi == m then bK (stN c m k) (gD c.ns k).s else stN c m k
def C_zst : Ctr := { α := CtI, xs := λ a => [.d (Dj a.c), .int a.k], val := λ a => .d (IL (Dv a.c a.k)), keep := λ _ => [], pre := λ a => [(0 <= a.k /\ a.k < a.c.ms.length) /\ AM a.c = 0] }
def zs4 (a : CtI) : Shape := { α := NS, dflt := default, T := λ s => ⟨[(1, .int a.k), (2, .bptr 201 0), (4, .bptr 202 0), (6, .bptr 203 0), (7, .int s.k)], [(201, .live (sJ a.c)), (202, .live (.box [.int 0, .int 0])), (203, .live (.box [.int s.m.lo, .int s.m.hi]))]⟩, inv := λ s => s.k <= a.c.ns.length /\ s.m = stN a.c a.k s.k, meas := λ s => a.c.ns.length - s.k, first := [(201, 1000), (202, 1016), (203, 3144)] }
def BOU (a : CtI) : Ann := { ann 67 [] with loops := λ id => if id = 4 then some [zs4 a] else none }
def BNL (a : CtI) : Prop := CH Try.prog (BOU a) O6 (AH O6) (C_zst.xs a) (AB []) (C_zst.val a) [] [] []
abbrev Gd:=CtI.k
abbrev LJ:=CtI.c
attribute [go_sem] Gd LJ
theorem BSB (a : CtI) : (BNL a) = (AE (CD (Gd a) (BB (LJ a))) (hd25 (λ i=>HU (AG (Gd a)) (BR (ZY i)) (Lq (LJ a) (LJ a) (λ j=>DX j (LJ a)) (LJ a) (Rr (HE (LJ a)) BQ (BP (Ul i) (GI (P7 (LJ a) (Gd a)) (HJ (LJ a)))) (AY (Ul i) (FS (P7 (LJ a) (Gd a)) (HJ (LJ a)))))) (XK (ZY i) (LJ a)) (aU i (stN (LJ a) (Gd a) (ZY i))))) (hd44 (λ i=>GQ (GZ (ZY i) (AN (LJ a)) (aU i (stN (LJ a) (Gd a) (ZY i)))) (ZY i) (AN (LJ a)) (YZ (ZY i) (LJ a)) (EK (Dx (BS (LJ a) (ZY i)) (Gd a)) (QF (YZ (ZY i) (LJ a)) (hd25 (λ j=>MA (AE (AG (Gd a)) (BD (ZY j) (ZY i)) (Lq (LJ a) (LJ a) (λ k=>DX k (LJ a)) (LJ a) (Rr (HE (LJ a)) BQ (BP (Ul j) (Mv (BG (Ul i)) (BG (BY (LJ a) (ZY i))))) (AY (Ul j) (mH (BJ (Ul i)) (BJ (BY (LJ a) (ZY i)))))))) (ZY j) (AN (LJ a)) (aU j (stN (LJ a) (Gd a) (ZY j))) (ZY i)))) (hd25 (λ j=>MA (AE (AG (Gd a)) (BD (ZY j) (ZY i)) (Lq (LJ a) (LJ a) (λ k=>DX k (LJ a)) (LJ a) (Rr (HE (LJ a)) BQ (BN (Ul j) (Ul i)) (AX (Ul j) (Ul i))))) (ZY j) (AN (LJ a)) (aU j (stN (LJ a) (Gd a) (ZY j))) (ZY i)))) (And (BN (Dv (LJ a) (Gd a)) (Ul i)) (AX (Dv (LJ a) (Gd a)) (Ul i)))))) := by kernel_rfl
theorem ARX {c : Cht} {m : Int} : ∀ k, (∀ i, i < k -> (gD c.ns i).mi ≠ m) -> stN c m k = st0 c m
 | 0, _ => rfl
 | k + 1, h => by
  show (bif (gD c.ns k).mi == m then _ else _) = _
  rw [show ((gD c.ns k).mi == m) = false by simpa using h k (Nat.lt_succ_self _)]
  exact ARX k λ i hi => h i (by omega)
theorem BIM {c : Cht} (h : ChOk c) {m : Int} {j : Nat} (hm : (gD c.ns j).mi = m) : ∀ k, j < k -> k <= c.ns.length -> stN c m k = bK (st0 c m) (gD c.ns j).s
 | 0, h1, _ => absurd h1 (Nat.not_lt_zero _)
 | k + 1, h1, h2 => by
  show (bif (gD c.ns k).mi == m then _ else _) = _
  by_cases e : j = k
  ·subst e
   rw [show ((gD c.ns j).mi == m) = true by simpa using hm]
   show bK (stN c m j) _ = _
   rw [ARX j λ i hi e => h.one i j hi (by omega) (by rw [e, hm])]
  ·rw [show ((gD c.ns k).mi == m) = false by simpa using λ e2 => h.one j k (by omega) (by omega) (by rw [e2, hm])]
   exact BIM h hm k (by omega) (by omega)
theorem BLV {c : Cht} (h : ChOk c) (m : Int) : stN c m c.ns.length = Dv c m := by
 unfold Dv
 cases hq : hasN c.ns m with
 | false =>
  refine ARX _ λ i hi e => ?_
  have := xF.2 ⟨gD c.ns i, TY hi, e⟩
  rw [hq] at this; cases this
 | true =>
  obtain ⟨q1, q2⟩ := fC hq
  obtain ⟨j, hj, e⟩ := YH q1
  show _ = bK (st0 c m) (ntOf c.ns m).s
  rw [BIM h (j := j) (by rw [e]; exact q2) _ hj (Nat.le_refl _), e]
theorem BVY (a : CtI) (h : (0 <= a.k /\ a.k < a.c.ms.length) /\ AM a.c = 0) : BNL a := by
 obtain ⟨hk, h0⟩ := h
 have hc := QR.1 h0
 have hn := hc.n
 rw [BSB]<;> delta BG BJ EC MM NO Hc ES ET hd25 BW AD BU CL AR BZ ZY Ul SC DJ hd40 hd44 EK JH HO KB NL Mv mH LO EJ GW EX HP HN HJ GT GB HC DU GG FE Dx FY Ri Gd LJ AE CR BB AF AY AU AG BC QF Rr AX BM CJ AK AN DD BH BY BP CX BN CY BS CE HQ AV AQ EV DW AZ CP AS FS DM AP AT CN BX GI CM HD CG GP GU DS FH CD EO JB DZ ML BD FR IW DX BQ LB dL HB EB BK GM GZ BR HE HU GC nI GQ ZN Ah Gl MA Bz XK ZD YZ P7 Lq aU; simp only [CC, eq_self, implies_true, forall_const]
 refine ⟨hk, ⟨⟨0, st0 a.c a.k⟩, ⟨rfl, rfl, rfl⟩, Nat.zero_le _, rfl⟩, λ s ⟨s1, s2⟩ => ⟨λ hlt => ?_, λ hge => ?_⟩⟩
 ·have hlt : s.k < a.c.ns.length := by omega
  refine ⟨by omega, λ h3 => ⟨by omega, by omega, ⟨s.k + 1, bK s.m (gD a.c.ns s.k).s⟩, ⟨(HY (by omega)).symm, rfl, rfl⟩, ⟨by show s.k + 1 <= _; omega, ?_⟩, by show a.c.ns.length - (s.k + 1) < _; omega⟩, λ h3 => ⟨⟨s.k + 1, s.m⟩, ⟨(HY (by omega)).symm, rfl, rfl⟩, ⟨by show s.k + 1 <= _; omega, ?_⟩, by show a.c.ns.length - (s.k + 1) < _; omega⟩⟩
  ·show bK s.m _ = bif (gD a.c.ns s.k).mi == a.k then _ else _
   rw [h3, s2]; rfl
  ·show s.m = bif (gD a.c.ns s.k).mi == a.k then _ else _
   rw [h3, s2]; rfl
 ·have e : s.k = a.c.ns.length := by omega
  rw [s2, e, BLV hc]; exact ⟨rfl, rfl⟩
theorem BAP : AJ Try.prog pW (C_zst.spec dCtI) := XP C_zst BOU [] [] ASF (λ _ => by kernel_rfl) (λ _ => AC) (λ a h => BVY a h) (λ _ => YS rfl rfl) _
end Go.Bal
