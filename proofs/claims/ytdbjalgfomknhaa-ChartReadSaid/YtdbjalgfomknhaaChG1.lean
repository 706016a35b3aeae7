/- Package chart: the order of notes, fewer than 13. Turned from RatR. -/
import Derived.Test.YtdbjalgfomknhaaChD3
set_option linter.unusedVariables false
set_option linter.unusedSimpArgs false
namespace Go.Bal
open Go Go.Sym Go.Proofs
def BEP (x : Int) : Prop := CR Try.prog (ann 6 []) ATH (AL ATH) (xI1 x) (AE []) (.bool false) [] [] []
theorem BIT (x : Int) : (BEP x) = (LV He (PX x x)) := by kernel_rfl
def AUM := pD dI1 λ _ => .bool false
theorem BMG : AR Try.prog AKT AUM := Lu xI1 hI1 λ g _ => Ky (A := ann 6 []) (ren := []) (fz := []) BJP (by kernel_rfl) AI (by
 show BEP g; rw [BIT]<;> delta LV He PX; simp)
def iC (a b : Int) : Int := bif decide (a < b) then -1 else bif decide (a > b) then 1 else 0
def BIG (x : I2) : Prop := CR Try.prog (ann 20 [(AKT, AUM)]) ATW (AL ATW) (xI2 x) (AE []) (.int (iC x.a x.b)) [] [] []
abbrev Lg:=iC
attribute [go_sem] Lg
theorem BIR (x : I2) : (BIG x) = (FG (PD (Ep x) (ZQ x)) (AS (Lg (Ep x) (ZQ x)) (-1)) (FG (JV (Ep x) (ZQ x)) (Jb (Lg (Ep x) (ZQ x))) (EV (Lg (Ep x) (ZQ x))))) := by kernel_rfl
def BEG := pD dI2 λ x => .int (iC x.a x.b)
theorem BKZ : AR Try.prog ATD BEG := Lu xI2 hI2 λ g _ => Ky (A := ann 20 [(AKT, AUM)]) (ren := []) (fz := []) BLM (by kernel_rfl) (AC BMG AI) (by
 show BIG g; rw [BIR]<;> delta AS FG PD JV Ep ZQ Lg EV Jb; unfold iC; by_cases h : g.a < g.b <;> by_cases h2 : g.b < g.a <;> simp [h, h2])
structure GAB where
 g : Cht
 a : Int
 b : Int
def HW (c : Cht) (x : Int) : Int := (gD c.ns x.toNat).mi
def bxG (c : Cht) : AObj := chB c
def dGAB : List AVal -> Heap -> Option (GAB × List (Nat × Nat) × List Nat)
 | [.d x, .d y, .bptr id _], H => match Ap H id with
  | some q => some (⟨q, FQ x, FQ y⟩, [(100, id)], [])
  | none => none
 | _, _ => none
def C_fw1 : Ctr := { ro := [100], α := GAB, xs := λ a => [.int a.a, .int a.b, .bptr 100 0], L := λ a => [(100, bxG a.g)], val := λ a => .int (iC (HW a.g a.a) (HW a.g a.b)), keep := λ a => [(100, .live (bxG a.g))], pre := λ a => [(0 <= a.a /\ a.a < a.g.ns.length) /\ 0 <= a.b /\ a.b < a.g.ns.length] }
def BNK : Ann := { ann 19 [(ATD, BEG)] with E := [100] }
def BNF (a : GAB) : Prop := CR Try.prog BNK ASA (AL ASA) (C_fw1.xs a) (AE (C_fw1.L a)) (C_fw1.val a) (C_fw1.keep a) [] []
abbrev I4:=GAB.g
abbrev TO:=HW
abbrev RT a b:=DV a (HX b)
abbrev Jz a b:=CS a (BL b)
attribute [go_sem] I4 TO RT Jz
theorem BSX (a : GAB) : (BNF a) = (AH (MR (Jz (GAB.a a) (I4 a)) (GAB.b a) (BL (I4 a))) (AS (Lg (TO (I4 a) (GAB.a a)) (TO (I4 a) (GAB.b a))) (Lg (RT (I4 a) (GAB.a a)) (RT (I4 a) (GAB.b a)))) (HJ (I4 a))) := by kernel_rfl
def rowI (l : List Int) : AObj := .row 1 l.length λ i => RI (gD l i)
def AIM (n : Nat) (l : List Int) : AObj := .row 1 n λ i => RI (gD l i)
def swL (l : List Int) (j : Nat) : List Int := (l.set j (gD l (j + 1))).set (j + 1) (gD l j)
def L0 (key : Int -> Int) : Nat -> List Int -> List Int
 | 0, l => l
 | j + 1, l => bif decide (iC (key (gD l (j + 1))) (key (gD l j)) < 0) then L0 key j (swL l j) else l
def stR (key : Int -> Int) : Nat -> Nat -> List Int -> List Int
 | 0, _, l => l
 | n + 1, i, l => stR key n (i + 1) (L0 key i l)
def oP (key : Int -> Int) (l : List Int) : List Int := stR key (l.length - 1) 1 l
structure GL where
 g : Cht
 l : List Int
 a : Int
 b : Int
structure IL2 where
 i : Nat
 l : List Int
 deriving Inhabited
structure IJL where
 i : Nat
 j : Nat
 l : List Int
 deriving Inhabited
def iW : AVal := .fn (.func RP) [] [.bptr 101 0]
def glK (a : GL) (l : List Int) : List (Nat × HCell) := [(100, .live (AIM a.l.length l)), (101, .live (bxG a.g))]
def glOk (a : GL) : Prop := a.l.length < 1073741824 /\ ∀ i, i < a.l.length -> 0 <= gD a.l i /\ gD a.l i < a.g.ns.length
def AWH : List AVal -> Option Int
 | [.d (.v (.int .u64 a))] => some a
 | _ => none
def wI (a : Int) : List AVal := [.d (.v (.int .u64 a))]
def AVT (x : Int) : Prop := CR Try.prog (ann 25 []) Qt (AL Qt) (wI x) (AE []) .any [] [] []
abbrev cO a b:=CS (PS IntKind.u8 (Xh a b)) 256
attribute [go_sem] cO
theorem BDI (x : Int) : (AVT x) = (DH (bO x 4294967296) (Eg 32 (Ov 32)) (DH (bO (Bm x) 65536) (Eg 16 (Ov 16)) (EZ (bO (T1 (Bm x) 16) 256) (NK (CX 8) (Ov 8) (cO (Xh (Xh x 32) 16) 8) II) (cO (Xh x 32) 16) II) (EZ (bO (Bm x) 256) (NK (CX 8) (Ov 8) (cO (Xh x 32) 8) II) (cO x 32) II)) (DH (bO x 65536) (Eg 16 (Ov 16)) (EZ (bO (T1 x 16) 256) (NK (CX 8) (Ov 8) (cO (Xh x 16) 8) II) (cO x 16) II) (EZ (bO x 256) (NK (CX 8) (Ov 8) (cO x 8) II) (CS (PS IntKind.u8 x) 256) II))) := by kernel_rfl
def AJA := pD AWH (λ _ => .any) (λ x => [0 <= x /\ x <= 20])
def BNO (x : Int) : Prop := CR Try.prog (ann 8 [(Sz, AJA)]) AGN (AL AGN) (wI x) (AE []) .any [] [] []
theorem BSG (x : Int) : (BNO x) = (And (Eg x (HU x 20)) II) := by kernel_rfl
def dGLt : List AVal -> Heap -> Option (GL × List (Nat × Nat) × List Nat)
 | [.own id _ _ n, .fn (.func f) [] [.bptr c _]], H => if f = RP then match H id, Ap H c with
  | .live (.row _ m r), some q => some (⟨q, OF n λ i => FQ (r i), 0, 0⟩, [(100, id), (101, c)], [])
  | _, _ => none else none
 | _, _ => none
def C_sort : Ctr := { ro := [101], α := GL, xs := λ a => [.own 100 1 0 a.l.length, iW], L := λ a => [(100, rowI a.l), (101, bxG a.g)], val := λ _ => .d (.tup []), keep := λ a => glK a (oP (HW a.g) a.l), pre := λ a => [a.l.length <= 12 /\ glOk a] }
theorem AFR : AR Try.prog RP (C_fw1.spec dGAB) := Bl C_fw1 (λ _ => BNK) [] [] BJI (λ _ => by kernel_rfl) (λ _ => AC BKZ AI) (λ (a : GAB) h => by
 show BNF a; rw [BSX]<;> delta CI CH FE EE FH CL AF CV DC AS CG HU KV JT HP GG IQ IV IX JU GZ GM HK HX Lg I4 TO AH DD EL AK BN BQ CF AJ BU BJ AN AM BV CD BR BL AO DZ EI DV DI AT BB EP HD BO DY AP BA AW FZ CX AV DB JF EU FX GA CS FP RA XC DE HJ QR MR RT Jz; simp only [CC, eq_self, implies_true, forall_const]
 exact ⟨h, rfl⟩) (λ _ => Ec rfl rfl) _
theorem ACX {l : List Int} {j i : Nat} {x : Int} (hj : j < l.length) : gD (l.set j x) i = bif decide (i = j) then x else gD l i := by
 unfold gD
 rw [List.getD_eq_getElem?_getD, List.getD_eq_getElem?_getD, List.getElem?_set]
 by_cases h : i = j
 ·subst h; simp [hj]
 ·simp [h, Ne.symm h]
theorem AHQ {l : List Int} {j i : Nat} (hj : j + 1 < l.length) : gD (swL l j) i = bif decide (i = j) then gD l (j + 1) else bif decide (i = j + 1) then gD l j else gD l i := by
 unfold swL
 rw [ACX (by simpa using hj), ACX (by omega)]
 by_cases h : i = j
 ·subst h; simp
 ·simp [h]
theorem mD (l : List Int) (j : Nat) : (swL l j).length = l.length := by simp [swL]
theorem AXY (xs : List AVal) (a : Int) (h : AWH xs = some a) : xs = wI a := by
 unfold AWH at h; split at h <;> cases h; rfl
theorem BEU (n : Int) : 0 <= IntKind.u8.wrap n /\ IntKind.u8.wrap n < ((256 : Nat) : Int) := by
 have e : IntKind.u8.wrap n = n % 256 := by
  simp only [IntKind.wrap, IntKind.bits, IntKind.signed]
  simp
 rw [e]; exact ⟨Int.emod_nonneg _ (by omega), Int.emod_lt_of_pos _ (by omega)⟩
theorem BGX : AR Try.prog Sz AJA := Lu wI AXY λ x h => Ky (A := ann 25 []) (ren := []) (fz := []) S4 (by kernel_rfl) AI (by
 have h : 0 <= x /\ x <= 20 := h
 show AVT x; rw [BDI]<;> delta bO PS CG FG HU KV II HX AJZ AH FZ CX JF CS DH EZ Xh T1 NK Yj Bm Ov Eg cO; simp only [CC, eq_self, implies_true, forall_const]
 exact ⟨λ h => by omega, λ _ => ⟨λ h => by omega, λ _ => ⟨λ h => by omega, λ _ => BEU _⟩⟩⟩)
theorem BBN : AR Try.prog R6 AJA := Lu wI AXY λ x h => Ky (A := ann 8 [(Sz, AJA)]) (ren := []) (fz := []) AXT (by kernel_rfl) (AC BGX AI) (by
 show BNO x; rw [BSG]<;> delta HU II CX Eg; exact ⟨h, trivial⟩)
end Go.Bal

namespace Go.Bal
open Go Go.Sym Go.Proofs
def nA (c : Cht) (p : Pr) : Nt := gD c.ns p.a.toNat
def nB (c : Cht) (p : Pr) : Nt := gD c.ns p.b.toNat
def ACF (n : Int) (p : Pr) : Bool := TM p.a 0 (wr (n - 1)) && TM p.b 0 (wr (n - 1))
def Sw (c : Cht) (p : Pr) : Bool := bif ACF c.ns.length p then bif (!(p.a == p.b && p.b == p.a)) then decide ((nA c p).mi < (nB c p).mi) else false else false
def Lf (c : Cht) (p : Pr) : Bool := decide (wr ((nB c p).t.lo - (nA c p).t.hi) > wr (c.p.hi * wr ((gD c.ms (nB c p).mi.toNat).pl - (gD c.ms (nA c p).mi.toNat).pl)))
structure DkP where
 w : Dk
 p : Pr
def dDkP : List AVal -> Heap -> Option (DkP × List (Nat × Nat) × List Nat)
 | [.bptr id _, .d p], H => match wL H id with
  | some (w, q) => some (⟨w, dPr p⟩, [(100, id), (101, q)], [])
  | none => none
 | _, _ => none
def C_pair : Ctr := { ro := [100, 101], α := DkP, xs := λ a => [.bptr 100 0, .d (ePr a.p)], L := λ a => dkL a.w, val := λ a => .bool (Sw a.w.c a.p), keep := λ a => dkK a.w, pre := λ a => [a.w.c.ns.length < 1073741824 /\ True] }
def BGN : Ann := { ann 59 [(N8, s_in)] with E := [100, 101] }
def BCF (a : DkP) : Prop := CR Try.prog BGN ATN (AL ATN) (C_pair.xs a) (AE (C_pair.L a)) (C_pair.val a) (C_pair.keep a) [] []
abbrev bB:=Sw
abbrev QE a:=AG (DkP.w a)
abbrev WL a:=Pr.b (DkP.p a)
abbrev WU a:=Pr.a (DkP.p a)
abbrev Gk a b c:=and (Lv a b) c
abbrev jZ a:=An (QE a)
attribute [go_sem] bB QE WL WU Gk jZ
theorem BJC (a : DkP) : (BCF a) = (HF (And (HQ (Ae (GB (Xi (WU a) (jZ a)) (Xi (WL a) (jZ a))) (Gk (WU a) (WL a) (Gk (WL a) (WU a) LX))) (Jz (WU a) (QE a))) (HQ (Ae (GB (Xi (WU a) (jZ a)) (Xi (WL a) (jZ a))) (Gk (WU a) (WL a) (Gk (WL a) (WU a) LX))) (Jz (WL a) (QE a)))) (LV (bB (QE a) (DkP.p a)) (GB (Ae (GB (Xi (WU a) (jZ a)) (Xi (WL a) (jZ a))) (Gk (WU a) (WL a) (Gk (WL a) (WU a) LX))) (PD (RT (QE a) (WU a)) (RT (QE a) (WL a))))) (AT (QE a)) (AW (QE a)) (AV (QE a)) (BA (QE a)) (BB (QE a)) (JM (QE a) (λ i=>FU i (DkP.w a)) (DkP.w a))) := by kernel_rfl
theorem BKJ : AR Try.prog AKJ (C_pair.spec dDkP) := Bl C_pair (λ _ => BGN) [] [] BMN (λ _ => by kernel_rfl) (λ _ => AC ABM AI) (λ (a : DkP) h => by
 have hn : a.w.c.ns.length < 1073741824 := (show a.w.c.ns.length < 1073741824 /\ True from h).1
 have w1 : IntKind.i64.wrap ((a.w.c.ns.length : Int) - 1) = (a.w.c.ns.length : Int) - 1 := NU (by omega) (by omega)
 show BCF a; rw [BJC]<;> delta LV He CI CH FE PS SI Pt EE FH CL AF CV DC AS CG PD HU KV JT HP GG IQ IV IX JU GZ GM HK Lv LX HX OE DF MA AG ID bB AH DD EL AK BN BQ CF AJ BU FT BJ KB AN AM BV CD BR BL AO DZ JI EI NO DV DI AT BB EP HD BO DY AP BA AW FZ CX AV DB KP CM NC JF KU PN EU TY BH BI TW EK JJ GA CS UE HQ XD JY KO FU FP LI QE DE QN GB ME HF JM RT WL WU An Ae Gk cE Jz Xi jZ; simp only [CC, eq_self, implies_true, forall_const]
 have e : (bif TM a.p.a 0 (IntKind.i64.wrap ((a.w.c.ns.length : Int) - 1)) then TM a.p.b 0 (IntKind.i64.wrap ((a.w.c.ns.length : Int) - 1)) else false) = ACF a.w.c.ns.length a.p := by
  unfold ACF wr; cases TM a.p.a 0 (IntKind.i64.wrap ((a.w.c.ns.length : Int) - 1)) <;> rfl
 rw [e]
 have hb : ACF a.w.c.ns.length a.p = true -> (0 <= a.p.a /\ a.p.a < a.w.c.ns.length) /\ 0 <= a.p.b /\ a.p.b < a.w.c.ns.length := λ h => by
  unfold ACF wr TM at h; rw [w1] at h
  simp only [Bool.and_eq_true, decide_eq_true_eq] at h; omega
 cases hq : ACF a.w.c.ns.length a.p with
 | false =>
  refine ⟨⟨(λ h => by cases h), (λ h => by cases h)⟩, ?_⟩
  unfold Sw; rw [hq]; rfl
 | true =>
  refine ⟨⟨λ _ => (hb hq).1, λ _ => (hb hq).2⟩, ?_⟩
  unfold Sw; rw [hq]
  simp only [cond_true, Bool.and_true]
  rfl) (λ _ => Ec rfl rfl) _
def C_late : Ctr := { ro := [100, 101], α := DkP, xs := λ a => [.bptr 100 0, .d (ePr a.p)], L := λ a => dkL a.w, val := λ a => .bool (Lf a.w.c a.p), keep := λ a => dkK a.w, pre := λ a => [((0 <= a.p.a /\ a.p.a < a.w.c.ns.length) /\ 0 <= a.p.b /\ a.p.b < a.w.c.ns.length) /\ (a.w.c.ms.length <= 40 /\ a.w.c.ns.length <= 20) /\ ∀ i, i < a.w.c.ns.length -> 0 <= (gD a.w.c.ns i).mi /\ (gD a.w.c.ns i).mi < a.w.c.ms.length] }
def BFU : Ann := { ann 61 [] with E := [100, 101] }
def BBY (a : DkP) : Prop := CR Try.prog BFU AUO (AL AUO) (C_late.xs a) (AE (C_late.L a)) (C_late.val a) (C_late.keep a) [] []
theorem BKT (a : DkP) : (BBY a) = (DP (MR (Jz (WU a) (QE a)) (WL a) (BL (QE a))) (MR (CS (RT (QE a) (WL a)) (BV (QE a))) (RT (QE a) (WU a)) (BV (QE a))) (LV (Lf (QE a) (DkP.p a)) (JV (KP (AP (QE a) (HX (WL a))) (CH (AO (QE a) (HX (WU a))))) (Gc (CH (GG (QE a))) (DI (QE a) (HX (RT (QE a) (WL a)))) (QE a) (HX (RT (QE a) (WU a)))))) (QE a) (λ i=>FU i (DkP.w a)) (DkP.w a)) := by kernel_rfl
theorem AYJ : AR Try.prog AOH (C_late.spec dDkP) := Bl C_late (λ _ => BFU) [] [] BJT (λ _ => by kernel_rfl) (λ _ => AI) (λ (a : DkP) h => by
 obtain ⟨⟨h1, h2⟩, _, h3⟩ : ((0 <= a.p.a /\ a.p.a < a.w.c.ns.length) /\ 0 <= a.p.b /\ a.p.b < a.w.c.ns.length) /\ (a.w.c.ms.length <= 40 /\ a.w.c.ns.length <= 20) /\ ∀ i, i < a.w.c.ns.length -> 0 <= (gD a.w.c.ns i).mi /\ (gD a.w.c.ns i).mi < a.w.c.ms.length := h
 show BBY a; rw [BKT]<;> delta LV CI CH FE PS SI Pt EE FH CL AF CV DC AS CG HU KV JT HP GG IQ IV IX JU GZ GM HK JV HX OE DF MA AG ID xI AH DD EL AK BN BQ CF AJ BU FT BJ KB AN AM BV CD BR BL AO DZ JI EI NO DV DI AT BB EP HD BO DY AP BA AW FZ CX AV DB KP CM NC JF KU PN EU TY BI TW GA CS UE XD JY KO FU FP LI wY QE DE QN QR ME JO JM MR RT WL DP WU Gc Jz; simp only [CC, eq_self, implies_true, forall_const]
 exact ⟨⟨h1, h2⟩, ⟨h3 _ (by omega), h3 _ (by omega)⟩, rfl⟩) (λ _ => Ec rfl rfl) _
end Go.Bal
