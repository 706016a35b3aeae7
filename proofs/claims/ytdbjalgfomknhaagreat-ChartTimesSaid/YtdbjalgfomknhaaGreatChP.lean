/- Package chart: Same, One. -/
import Derived.Test.YtdbjalgfomknhaaGreatChL
import Derived.Test.YtdbjalgfomknhaaGreatChZf
set_option linter.unusedVariables false
set_option linter.unusedSimpArgs false
namespace Go.Bal
open Go Go.Sym Go.Proofs
structure SS2 where
 l : List Span
 m : List Span
def dSS2 : List AVal -> Heap -> Option (SS2 × List (Nat × Nat) × List Nat)
 | [x, y], H => match Wv x H, Wv y H with
  | some (l, f), some (m, e) => some (⟨l, m⟩, [], f ++ e)
  | _, _ => none
 | _, _ => none
def eqN (f : Nat -> Bool) : Nat -> Bool
 | 0 => true
 | k + 1 => eqN f k && f k
def eqS (x : SS2) (i : Nat) : Bool := (gD x.l i).lo == (gD x.m i).lo && (gD x.l i).hi == (gD x.m i).hi
def samS (x : SS2) : Bool := x.l.length == x.m.length && eqN (eqS x) x.l.length
def C_samS : Ctr := { α := SS2, xs := λ x => [.d (DE x.l), .d (DE x.m)], val := λ x => .bool (samS x), keep := λ _ => [], pre := λ x => [x.l.length < 4611686018427387904 /\ x.m.length < 4611686018427387904] }
def sa4 (x : SS2) : Shape := { α := Nat, dflt := 0, T := λ k => ⟨[(0, .d (DE x.l)), (1, .d (DE x.m)), (5, .int k)], []⟩, inv := λ k => k <= x.l.length /\ eqN (eqS x) k = true, meas := λ k => x.l.length - k }
def BCM (x : SS2) : Ann := { ann 26 [] with loops := λ id => if id = 4 then some [sa4 x] else none }
def BFP (x : SS2) : Prop := CH Try.prog (BCM x) ALA (AH ALA) (C_samS.xs x) (AB []) (C_samS.val x) [] [] []
abbrev Zi:=SS2.l
abbrev sR:=SS2.m
abbrev Sr a b c:=EK a (EF b) c
attribute [go_sem] Zi sR Sr
theorem BMN (x : SS2) : (BFP x) = (Sr (NJ (BZ (ED (Zi x))) (BZ (ED (sR x)))) (samS x) (DP (λ i=>SD (AF (KC (Zi x)) (KA (Zi x)) (KC (sR x)) (KA (sR x)) (BR i)) i (ED (Zi x)) (CK (eqN (eqS x) i))) (λ i=>GQ (GZ i (ED (Zi x)) (CK (eqN (eqS x) i))) i (ED (Zi x)) (PR (MI i (Zi x)) (BZ i) (ED (sR x))) (Sr (Ly (PT (Zi x) i) (PT (sR x) i) (RN (Zi x) i) (RN (sR x) i)) (samS x) (GN (λ j=>MA (AF (KC (Zi x)) (KA (Zi x)) (KC (sR x)) (KA (sR x)) (BD j i)) j (ED (Zi x)) (CK (eqN (eqS x) j)) i))) (CK (samS x))))) := by kernel_rfl
theorem ARH {f : Nat -> Bool} : ∀ {n k : Nat}, k < n -> f k = false -> eqN f n = false
 | 0, k, h, _ => absurd h (Nat.not_lt_zero _)
 | n + 1, k, h, hg => by
  show (eqN f n && f n) = false
  by_cases e : k = n
  ·subst e; rw [hg, Bool.and_false]
  ·rw [ARH (show k < n by omega) hg]; rfl
theorem BCE {f : Nat -> Bool} {k : Nat} (h : eqN f k = true) (h2 : f k = true) : eqN f (k + 1) = true := by
 show (eqN f k && f k) = true
 rw [h, h2]; rfl
theorem BTC (x : SS2) (h : x.l.length < 4611686018427387904 /\ x.m.length < 4611686018427387904) : BFP x := by
 rw [BMN]<;> delta KH ZR BG BJ MM NO BW ED AD BU CL AR GK BZ DJ EK JH HO KB NL LO GN Dx JL NJ Zi sR AE AF AY AU AG BC AX BM BH HQ AZ FS DM CN GP GU DS FH CK CD EO JY KC JB DZ BD FR IW LB YN Ct HS HB EB EF GM GZ BR Ba GC DP KA PT UZ RN PR GQ MI uW ZN Sr Ah MA SD Ly; simp only [CC, eq_self, implies_true, forall_const]
 refine ⟨λ hn => ?_, λ hn => ⟨⟨0, rfl, Nat.zero_le _, rfl⟩, ?_⟩⟩
 ·unfold samS
  have : (x.l.length == x.m.length) = false := by simp at hn ⊢; omega
  rw [this]; rfl
 ·have hl : (x.l.length == x.m.length) = true := by simp at hn ⊢; omega
  have hl2 : x.l.length = x.m.length := by simpa using hl
  rintro k ⟨hk, he⟩
  refine ⟨λ hlt => ⟨⟨⟨by omega, by omega⟩, by omega, by omega⟩, λ hc => ?_, λ hc => ⟨k + 1, by rw [Bc (by omega) (by omega)]; rfl, ⟨by omega, BCE he ?_⟩, by omega⟩⟩, λ hge => ?_⟩
  ·unfold samS
   rw [ARH (f := eqS x) (show k < x.l.length by omega) (by rw [Bool.and_true] at hc; exact hc), Bool.and_false]
  ·rw [Bool.and_true] at hc; exact hc
  ·obtain rfl : k = x.l.length := by omega
   unfold samS; rw [hl, he]; rfl
theorem AUL : AJ Try.prog AAE (C_samS.spec dSS2) := XP C_samS BCM [] [] BIK (λ _ => by kernel_rfl) (λ _ => AC) (λ (x : SS2) h => BTC x h) (λ _ => YS rfl rfl) _
structure PP2 where
 l : List Pr
 m : List Pr
def dPP2 : List AVal -> Heap -> Option (PP2 × List (Nat × Nat) × List Nat)
 | [x, y], H => match dPrs x H, dPrs y H with
  | some (l, f), some (m, e) => some (⟨l, m⟩, [], f ++ e)
  | _, _ => none
 | _, _ => none
def eqP (x : PP2) (i : Nat) : Bool := (gD x.l i).a == (gD x.m i).a && (gD x.l i).b == (gD x.m i).b
def samP (x : PP2) : Bool := x.l.length == x.m.length && eqN (eqP x) x.l.length
def C_samP : Ctr := { α := PP2, xs := λ x => [.d (eO x.l), .d (eO x.m)], val := λ x => .bool (samP x), keep := λ _ => [], pre := λ x => [x.l.length < 4611686018427387904 /\ x.m.length < 4611686018427387904] }
def sq4 (x : PP2) : Shape := { α := Nat, dflt := 0, T := λ k => ⟨[(0, .d (eO x.l)), (1, .d (eO x.m)), (5, .int k)], []⟩, inv := λ k => k <= x.l.length /\ eqN (eqP x) k = true, meas := λ k => x.l.length - k }
def BDY (x : PP2) : Ann := { ann 26 [] with loops := λ id => if id = 4 then some [sq4 x] else none }
def BBO (x : PP2) : Prop := CH Try.prog (BDY x) AKG (AH AKG) (C_samP.xs x) (AB []) (C_samP.val x) [] [] []
abbrev xV:=PP2.l
abbrev xL:=PP2.m
abbrev Sb a:=YC (xV a)
abbrev lN a:=YC (xL a)
attribute [go_sem] xV xL Sb lN
theorem BND (x : PP2) : (BBO x) = (Sr (NJ (BZ (Sb x)) (BZ (lN x))) (samP x) (DP (λ i=>SD (XE (BC (Sb x)) (AD (λ j=>Le j (Sb x) (MF (xV x) j) (cK (xV x) j))) (BC (lN x)) (λ j=>Le j (lN x) (MF (xL x) j) (cK (xL x) j)) (BR i)) i (Sb x) (CK (eqN (eqP x) i))) (λ i=>GQ (GZ i (Sb x) (CK (eqN (eqP x) i))) i (Sb x) (PR (FR i (Sb x)) (BZ i) (lN x)) (Sr (Ly (MF (xV x) i) (MF (xL x) i) (RT (xV x) i) (RT (xL x) i)) (samP x) (GN (λ j=>MA (XE (BC (Sb x)) (AD (λ k=>Le k (Sb x) (MF (xV x) k) (cK (xV x) k))) (BC (lN x)) (λ k=>Le k (lN x) (MF (xL x) k) (cK (xL x) k)) (BD j i)) j (Sb x) (CK (eqN (eqP x) j)) i))) (CK (samP x))))) := by kernel_rfl
theorem BSX (x : PP2) (h : x.l.length < 4611686018427387904 /\ x.m.length < 4611686018427387904) : BBO x := by
 rw [BND]<;> delta KH ZR MM NO BW AD BU CL AR BZ DJ EK JH HO KB NL LO GN Dx JL NJ YC Ws xV xL AE AF AU AG BC BH HQ FS DM CN GP GU DS FH CK CD EO JB DZ BD FR IW LB HS HB EB EF GM GZ BR RT GC DP MF UZ PR GQ uW ZN Sr Ah MA XE Sb SD Ly Le cK lN; simp only [CC, eq_self, implies_true, forall_const]
 refine ⟨λ hn => ?_, λ hn => ⟨⟨0, rfl, Nat.zero_le _, rfl⟩, ?_⟩⟩
 ·unfold samP
  have : (x.l.length == x.m.length) = false := by simp at hn ⊢; omega
  rw [this]; rfl
 ·have hl : (x.l.length == x.m.length) = true := by simp at hn ⊢; omega
  have hl2 : x.l.length = x.m.length := by simpa using hl
  rintro k ⟨hk, he⟩
  refine ⟨λ hlt => ⟨⟨⟨by omega, by omega⟩, by omega, by omega⟩, λ hc => ?_, λ hc => ⟨k + 1, by rw [Bc (by omega) (by omega)]; rfl, ⟨by omega, BCE he ?_⟩, by omega⟩⟩, λ hge => ?_⟩
  ·unfold samP
   rw [ARH (f := eqP x) (show k < x.l.length by omega) (by rw [Bool.and_true] at hc; exact hc), Bool.and_false]
  ·rw [Bool.and_true] at hc; exact hc
  ·obtain rfl : k = x.l.length := by omega
   unfold samP; rw [hl, he]; rfl
theorem BMH : AJ Try.prog AIU (C_samP.spec dPP2) := XP C_samP BDY [] [] BCQ (λ _ => by kernel_rfl) (λ _ => AC) (λ (x : PP2) h => BSX x h) (λ _ => YS rfl rfl) _
def oneM (x : I2) : Cht := ⟨⟨10, 12⟩, 500, 10, 5, [⟨0, 20⟩, ⟨10, 50⟩, ⟨30, 30⟩], [⟨0, ⟨0, 0⟩, ⟨0, 2000⟩⟩, ⟨2, ⟨x.a, x.b⟩, ⟨0, 2000⟩⟩]⟩
def BNY (x : I2) : Prop := CH Try.prog (ann 21 []) BHP (AH BHP) (xI2 x) (AB []) (.d (Dj (oneM x))) [] [] [3064, 3192]
abbrev Jg:=oneM
abbrev cT a b c:=Ca a 0 b c
abbrev Qe a b c d e:=cT a b (cT (OF c) d e)
attribute [go_sem] Jg cT Qe
theorem BRN (x : I2) : (BNY x) = (AE (BP (EX (Jg x)) 10) (AY (EX (Jg x)) 12) (AK (Mc (Jg x) 500) (Kq (Jg x) 10) (Mh (Jg x) 5) (BW (BB (Jg x)) 3) (Nc 3) (AD (λ i=>GY i (Jg x) (Qe (BV i) 0 (BV i) 10 30) (Qe (BV i) 20 (BV i) 50 30))) (BW (AN (Jg x)) 2) (Nc 2) (AD (λ i=>DW i (Jg x) (AF (KL (Jg x) i (cT (BV i) 0 2)) (BP (CJ (Jg x) i) (cT (BV i) 0 (Kb x))) (AY (CJ (Jg x) i) (cT (BV i) 0 (Ej x))) (BP (BY (Jg x) i) (cT (BV i) 0 0)) (AY (BY (Jg x) i) (cT (BV i) 2000 2000))))))) := by kernel_rfl
def BQS := pD dI2 λ x => .d (Dj (oneM x))
theorem BTA : AJ Try.prog BAU BQS := Kr xI2 hI2 λ g _ => Hp (A := ann 21 []) (ren := []) (fz := [3064, 3192]) BTM (by kernel_rfl) AC (by
 show BNY g; rw [BRN]<;> delta BG BJ EC ES ET BW AD BU CL AR DJ LO EJ GW EX HP HN HJ GT GB HC DU GG FE QC YM Wj Kb Ej Jg AE CR BB AF AY AU Nc CJ AK AN DD BH BY BP BS CE EV DW CP BV KL Ca GY OF cT Mh Kq Mc Qe; simp only [CC, eq_self, implies_true, forall_const]
 refine ⟨rfl, rfl, rfl, rfl, rfl, rfl, by decide, λ j hj => ?_, rfl, by decide, λ j hj => ?_⟩
 ·have hj : j < 3 := hj
  rcases j with _ | _ | _ | j
  ·exact ⟨rfl, rfl⟩
  ·exact ⟨rfl, rfl⟩
  ·exact ⟨rfl, rfl⟩
  ·omega
 ·have hj : j < 2 := hj
  rcases j with _ | _ | j
  ·exact ⟨rfl, rfl, rfl, rfl, rfl⟩
  ·exact ⟨rfl, rfl, rfl, rfl, rfl⟩
  ·omega)
def AUS : Ann := ann 249 [(BAU, BQS), (xH, C_Stages.spec kM), (AAJ, C_Times.spec pZ), (AAE, C_samS.spec dSS2), (AMW, C_Stops.spec kM), (AJB, C_Pairs.spec kM), (ADV, C_prov.spec dPrv), (AIU, C_samP.spec dPP2), (AMU, C_Stage.spec dCZI), (ATG, C_Peak.spec dCZ2), (AJY, C_First.spec dCZI)]
def AWV : Prop := CH Try.prog AUS AJG (AH AJG) [] (AB []) (.bool true) [] [] []
abbrev AGX:=@default Int Int.instInhabited
abbrev AHA:=Sym.elemOf
abbrev Hv:=DT 2
abbrev Ck:=DT 3
abbrev Gs a b c d e:=AU a 2 (GH b c b d b e)
abbrev AWU a b:=Jg (I2.mk a b)
abbrev Lu:=AWU 310 320
abbrev uH a b c d e f:=IC a b c d c e c f c
abbrev Ht a b c d e:=uH a 3 b c d e
abbrev ZQ:=BC 3
abbrev OZ:=Ge 10
abbrev Is:=Ge 500
abbrev Hg:=Ge 12
abbrev Vv:=AWU 400 410
abbrev mU:=tL Vv
abbrev aH:=DK Lu
attribute [go_sem] AGX AHA Hv Ck Gs AWU Lu uH Ht ZQ OZ Is Hg Vv mU aH
theorem BFR : (AWV) = (AF (AE OZ Hg (CM Is OZ Db ZQ (AD (λ i=>Ht i Lu i i i)) YQ (λ i=>Gs i Lu i i i) Ck Hv)) (And OZ (AK Hg Is OZ Db ZQ (AD (λ i=>Ht i Lu i i i)) YQ (AD (λ i=>Gs i Lu i i i)) (XA AI Ck Hv Sc))) (And OZ (AK Hg Is OZ Db ZQ (AD (λ i=>Ht i (Jg (I2.mk 300 300)) i i i)) YQ (AD (λ i=>Gs i (Jg (I2.mk 300 300)) i i i)) (XA AI Ck Hv Sc))) (AE (SU (And ZQ (Zq (AD (λ i=>BH i 3 (BN (GK (IP (WL aH)) i) (GK (WL aH) i)) (AX (GK (IP (WL aH)) i) (GK (WL aH) i)))) ZQ (AD (λ i=>VK i 3 (GK (Ef 3 (λ j=>Cm (Qe j 695 j 995 795) (Qe j 705 j 1005 805))) i) (Qe i 695 i 995 795) (Qe i 705 i 1005 805))) Ck))) (SU (And ZQ (Zq (AD (λ i=>BH i 3 (BN (GK (IP (VC (SW aH (VV 0 (λ j=>AGX))))) i) (GK (VC (SW aH (VV 0 (λ j=>AGX)))) i)) (AX (GK (IP (VC (SW aH (VV 0 (λ j=>AGX))))) i) (GK (VC (SW aH (VV 0 (λ j=>AGX)))) i)))) ZQ (AD (λ i=>VK i 3 (GK (Ef 3 (λ j=>Cm (Qe j 0 j 100 310) (Qe j 0 j 120 320))) i) (Qe i 0 i 100 310) (Qe i 0 i 120 320))) Ck))) (SU (CD 1 3))) (XA (AE OZ Hg (CM Is OZ Db ZQ (AD (λ i=>Ht i Vv i i i)) YQ (λ i=>Gs i Vv i i i) (And Ck Hv) (BU BQ (DJ 2 14)))) (FX OZ Hg Is OZ Db ZQ (AD (λ i=>Ht i Vv i i i)) (DC YQ (λ i=>Gs i Vv i i i) (Ge 1) Am MG (AD (λ i=>DB i 1 (MF (mS 1 (λ j=>dPr (dK (nL (AHA (lG (yQ aE) (yQ (Ln 1))))) j))) i) 0 (RT (mS 1 (λ j=>dPr (dK (nL (AHA (lG (yQ aE) (yQ (Ln 1))))) j))) i) 1)) Ck Hv (DT 1))) (IR OZ Hg Is OZ Db ZQ (AK (AD (λ i=>Ht i Vv i i i)) YQ (AD (λ i=>Gs i Vv i i i)) Am MG (AD (λ i=>AU i 1 (IQ (FK (VV 1 (λ j=>0)) i)))) Ck Hv (DT 1))) (AK (IR OZ Hg Is OZ Db ZQ (AK (AD (λ i=>Ht i Vv i i i)) YQ (AD (λ i=>Gs i Vv i i i)) Am MG (AD (λ i=>AU i 1 (Pn (FK (VV 1 (λ j=>1)) i)))) Ck Hv (DT 1))) (sU (SU (And Am (Zq (AD (λ i=>DB i 1 (MF (mS (YC mU) (λ j=>Ws mU j)) i) (MF mU i) (RT (mS (YC mU) (λ j=>Ws mU j)) i) (RT mU i))) Am (AD (λ i=>DB i 1 (MF (mS 1 (λ j=>dPr (dK (nL (AHA (lG (yQ aE) (yQ (Ln 1))))) j))) i) 0 (RT (mS 1 (λ j=>dPr (dK (nL (AHA (lG (yQ aE) (yQ (Ln 1))))) j))) i) 1)) (DT 1)))) (SU (CD 1 3))) (IR OZ Hg Is OZ Db ZQ (AK (AD (λ i=>Ht i Lu i i i)) YQ (AD (λ i=>Gs i Lu i i i)) AI AI (Ge 50) Ck Hv Sc)) (IR OZ Hg Is OZ Db ZQ (AK (AD (λ i=>Ht i Lu i i i)) YQ (AD (λ i=>Gs i Lu i i i)) AI AI (Ge 320) Ck Hv Sc)) (IR OZ Hg Is OZ Db ZQ (AK (AD (λ i=>Ht i Lu i i i)) YQ (AD (λ i=>Gs i Lu i i i)) AI AI (Ge 321) Ck Hv Sc)) (FX OZ Hg Is OZ Db ZQ (AD (λ i=>Ht i Lu i i i)) (jW YQ (AD (λ i=>Gs i Lu i i i)) AI (AF BQ (Ge 110) Ck Hv Sc))) (IR OZ Hg Is OZ Db ZQ (AK (AD (λ i=>Ht i Lu i i i)) YQ (AD (λ i=>Gs i Lu i i i)) AI AI (Ge 1000) Ck Hv Sc)) (IR OZ Hg Is OZ Db ZQ (AK (AD (λ i=>Ht i Lu i i i)) YQ (AD (λ i=>Gs i Lu i i i)) AI AI (Ge 995) Ck Hv Sc)) GF))) := by kernel_rfl
def ATZ : List AVal -> Option (AVal × List Prop)
 | [] => some (.bool true, [])
 | _ => none
def AVU : Sym.Spec := xC ATZ
theorem BIY : AWV := by
 rw [BFR]<;> delta KH BG BJ EC NO ES ET BW ED AD BU CL AR GK BZ SC DJ HO KB LO EJ GW EX HP HN HJ GT GB HC DU GG FE JW Ef FK VV JL YM Wj Cm SW YC Ws mS APW tB eT AFK Jg AGX AHA AE CR FA BB GA AF AY AU AG EM sU EZ BC FD Nc XA jW Zq AX FC CJ AK DD BH HX BY BP CX HZ BN CY BS CE FU Jc LX CP FT DM ID EG CN CM GP AWU FH HV AO AI DC DT EL IP DK CD EP HW DB FN ML FQ Ge FO FZ GH BQ IC Ca Lu IQ uH GF OF RT FX MF Ln MG cT VC OZ SU WL aE IR ZQ nL Ck YQ lG lL Db Is Hv Vv Hg Qe Am VK Gs tL Sc aH Ht mU Pn; simp only [CC, eq_self, implies_true, forall_const]
 decide +kernel
theorem AZT : AJ Try.prog ALQ AVU := X8 λ xs v p h _ => by
 unfold ATZ at h; split at h
 ·cases h; exact Hp (A := AUS) (ren := []) (fz := []) BFA (by kernel_rfl) (AA BTA (AA APK (AA AOH (AA AUL (AA BDT (AA BEG (AA BIW (AA BMH (AA BHI (AA BJQ (AA BFT AC))))))))))) BIY
 ·cases h
end Go.Bal
