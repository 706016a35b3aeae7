/- Package chart: Same, One. -/
import Derived.Test.YtdbjalgfomknhaaGreatChL
import Derived.Test.YtdbjalgfomknhaaGreatChO
set_option linter.unusedVariables false
set_option linter.unusedSimpArgs false
namespace Go.Bal
open Go Go.Sym Go.Proofs
structure SS2 where
 l : List Span
 m : List Span
def dSS2 : List AVal -> Heap -> Option (SS2 × List (Nat × Nat) × List Nat)
 | [x, y], H => match Vb x H, Vb y H with
  | some (l, f), some (m, e) => some (⟨l, m⟩, [], f ++ e)
  | _, _ => none
 | _, _ => none
def eqN (f : Nat -> Bool) : Nat -> Bool
 | 0 => true
 | k + 1 => eqN f k && f k
def eqS (x : SS2) (i : Nat) : Bool := (gD x.l i).lo == (gD x.m i).lo && (gD x.l i).hi == (gD x.m i).hi
def samS (x : SS2) : Bool := x.l.length == x.m.length && eqN (eqS x) x.l.length
def C_samS : Ctr := { α := SS2, xs := λ x => [.d (DA x.l), .d (DA x.m)], val := λ x => .bool (samS x), keep := λ _ => [], pre := λ x => [x.l.length < 4611686018427387904 /\ x.m.length < 4611686018427387904] }
def sa4 (x : SS2) : Shape := { α := Nat, dflt := 0, T := λ k => ⟨[(0, .d (DA x.l)), (1, .d (DA x.m)), (5, .int k)], []⟩, inv := λ k => k <= x.l.length /\ eqN (eqS x) k = true, meas := λ k => x.l.length - k }
def AWE (x : SS2) : Ann := { ann 26 [] with loops := λ id => if id = 4 then some [sa4 x] else none }
def BAN (x : SS2) : Prop := CL Try.prog (AWE x) AGF (AH AGF) (C_samS.xs x) (AB []) (C_samS.val x) [] [] []
abbrev Wn:=SS2.l
abbrev oU:=SS2.m
attribute [go_sem] Wn oU
theorem BDM (x : SS2) : (BAN x) = (DX (TU (BU (CU (Wn x))) (BU (CU (oU x)))) (EU (samS x)) (DY (λ i=>ML (AG (NO (Wn x)) (IZ (Wn x)) (NO (oU x)) (IZ (oU x)) (BR i)) i (CU (Wn x)) (DI (eqN (eqS x) i))) (λ i=>CO (JI i (CU (Wn x)) (DI (eqN (eqS x) i))) i (CU (Wn x)) (RG (ZW i (Wn x)) (BU i) (CU (oU x))) (PB (Ck (EM (Wn x) i) (EM (oU x) i) (MX (Wn x) i) (MX (oU x) i)) (EU (samS x)) (λ j=>LH (AG (NO (Wn x)) (IZ (Wn x)) (NO (oU x)) (IZ (oU x)) (BH j i)) j (CU (Wn x)) (DI (eqN (eqS x) j)) i)) (DI (samS x))))) := by kernel_rfl
theorem AMW {f : Nat -> Bool} : ∀ {n k : Nat}, k < n -> f k = false -> eqN f n = false
 | 0, k, h, _ => absurd h (Nat.not_lt_zero _)
 | n + 1, k, h, hg => by
  show (eqN f n && f n) = false
  by_cases e : k = n
  ·subst e; rw [hg, Bool.and_false]
  ·rw [AMW (show k < n by omega) hg]; rfl
theorem AWL {f : Nat -> Bool} {k : Nat} (h : eqN f k = true) (h2 : f k = true) : eqN f (k + 1) = true := by
 show (eqN f k && f k) = true
 rw [h, h2]; rfl
theorem BOH (x : SS2) (h : x.l.length < 4611686018427387904 /\ x.m.length < 4611686018427387904) : BAN x := by
 rw [BDM]<;> delta KY Aq BA BI OH PR CE CU AC BX CM AQ LU BU DH DX IP HD LS PG JV GW WI IX TU Wn oU AE AG BF BE BD AF CG BC BS CY HK GF DW DC GR FZ EM CJ GQ DI FL LV JG BH JI ZC JP ZD NO DV DG LX IS MU HG EU HX DU TW BR IZ CO DY lL MX RD RG ZX LH ML PB aH Ck ZW; simp only [CC, eq_self, implies_true, forall_const]
 refine ⟨λ hn => ?_, λ hn => ⟨⟨0, rfl, Nat.zero_le _, rfl⟩, ?_⟩⟩
 ·unfold samS
  have : (x.l.length == x.m.length) = false := by simp at hn ⊢; omega
  rw [this]; rfl
 ·have hl : (x.l.length == x.m.length) = true := by simp at hn ⊢; omega
  have hl2 : x.l.length = x.m.length := by simpa using hl
  rintro k ⟨hk, he⟩
  refine ⟨λ hlt => ⟨⟨⟨by omega, by omega⟩, by omega, by omega⟩, λ hc => ?_, λ hc => ⟨k + 1, by rw [Dh (by omega) (by omega)]; rfl, ⟨by omega, AWL he ?_⟩, by omega⟩⟩, λ hge => ?_⟩
  ·unfold samS
   rw [AMW (f := eqS x) (show k < x.l.length by omega) (by rw [Bool.and_true] at hc; exact hc), Bool.and_false]
  ·rw [Bool.and_true] at hc; exact hc
  ·obtain rfl : k = x.l.length := by omega
   unfold samS; rw [hl, he]; rfl
theorem BEZ : AK Try.prog ADG (C_samS.spec dSS2) := XM C_samS AWE [] [] AVC (λ _ => by kernel_rfl) (λ _ => AD) (λ (x : SS2) h => BOH x h) (λ _ => YR rfl rfl) _
structure PP2 where
 l : List Pr
 m : List Pr
def dPP2 : List AVal -> Heap -> Option (PP2 × List (Nat × Nat) × List Nat)
 | [x, y], H => match dPrs x H, dPrs y H with
  | some (l, f), some (m, e) => some (⟨l, m⟩, [], f ++ e)
  | _, _ => none
 | _, _ => none
def eqP (x : PP2) (i : Nat) : Bool := (gD x.l i).a == (gD x.m i).a && (gD x.l i).b == (gD x.m i).b
def samP (x : PP2) : Bool := x.l.length == x.m.length && eqN (eqP x) x.l.length
def C_samP : Ctr := { α := PP2, xs := λ x => [.d (bQ x.l), .d (bQ x.m)], val := λ x => .bool (samP x), keep := λ _ => [], pre := λ x => [x.l.length < 4611686018427387904 /\ x.m.length < 4611686018427387904] }
def sq4 (x : PP2) : Shape := { α := Nat, dflt := 0, T := λ k => ⟨[(0, .d (bQ x.l)), (1, .d (bQ x.m)), (5, .int k)], []⟩, inv := λ k => k <= x.l.length /\ eqN (eqP x) k = true, meas := λ k => x.l.length - k }
def AVK (x : PP2) : Ann := { ann 26 [] with loops := λ id => if id = 4 then some [sq4 x] else none }
def AVS (x : PP2) : Prop := CL Try.prog (AVK x) AER (AH AER) (C_samP.xs x) (AB []) (C_samP.val x) [] [] []
abbrev tV:=PP2.l
abbrev uS:=PP2.m
abbrev Qg a:=WQ (tV a)
abbrev jJ a:=WQ (uS a)
attribute [go_sem] tV uS Qg jJ
theorem BEE (x : PP2) : (AVS x) = (DX (TU (BU (Qg x)) (BU (jJ x))) (EU (samP x)) (DY (λ i=>ML (Ej (BC (Qg x)) (AC (λ j=>FE j (Qg x) (MK (tV x) j) (MI (tV x) j))) (BC (jJ x)) (λ j=>FE j (jJ x) (MK (uS x) j) (MI (uS x) j)) (BR i)) i (Qg x) (DI (eqN (eqP x) i))) (λ i=>CO (JI i (Qg x) (DI (eqN (eqP x) i))) i (Qg x) (RG (DG i (Qg x)) (BU i) (jJ x)) (PB (Ck (MK (tV x) i) (MK (uS x) i) (MI (tV x) i) (MI (uS x) i)) (EU (samP x)) (λ j=>LH (Ej (BC (Qg x)) (AC (λ k=>FE k (Qg x) (MK (tV x) k) (MI (tV x) k))) (BC (jJ x)) (λ k=>FE k (jJ x) (MK (uS x) k) (MI (uS x) k)) (BH j i)) j (Qg x) (DI (eqN (eqP x) j)) i)) (DI (samP x))))) := by kernel_rfl
theorem BLG (x : PP2) (h : x.l.length < 4611686018427387904 /\ x.m.length < 4611686018427387904) : AVS x := by
 rw [BEE]<;> delta KY Aq OH PR CE AC BX CM AQ BU DH DX IP HD LS PG JV GW WI IX TU WQ Sp tV uS AE AG BE AF BC BS HK GF DW DC GR FZ FE CJ GQ DI FL LV JG BH JI JP DV DG LX IS MU HG EU HX DU MI BR MK CO DY lL RD RG ZX LH ML PB aH Qg Ck Ej jJ; simp only [CC, eq_self, implies_true, forall_const]
 refine ⟨λ hn => ?_, λ hn => ⟨⟨0, rfl, Nat.zero_le _, rfl⟩, ?_⟩⟩
 ·unfold samP
  have : (x.l.length == x.m.length) = false := by simp at hn ⊢; omega
  rw [this]; rfl
 ·have hl : (x.l.length == x.m.length) = true := by simp at hn ⊢; omega
  have hl2 : x.l.length = x.m.length := by simpa using hl
  rintro k ⟨hk, he⟩
  refine ⟨λ hlt => ⟨⟨⟨by omega, by omega⟩, by omega, by omega⟩, λ hc => ?_, λ hc => ⟨k + 1, by rw [Dh (by omega) (by omega)]; rfl, ⟨by omega, AWL he ?_⟩, by omega⟩⟩, λ hge => ?_⟩
  ·unfold samP
   rw [AMW (f := eqP x) (show k < x.l.length by omega) (by rw [Bool.and_true] at hc; exact hc), Bool.and_false]
  ·rw [Bool.and_true] at hc; exact hc
  ·obtain rfl : k = x.l.length := by omega
   unfold samP; rw [hl, he]; rfl
theorem BEN : AK Try.prog AEB (C_samP.spec dPP2) := XM C_samP AVK [] [] AZO (λ _ => by kernel_rfl) (λ _ => AD) (λ (x : PP2) h => BLG x h) (λ _ => YR rfl rfl) _
def oneM (x : I2) : Cht := ⟨⟨10, 12⟩, 500, 10, 5, [⟨0, 20⟩, ⟨10, 50⟩, ⟨30, 30⟩], [⟨0, ⟨0, 0⟩, ⟨0, 2000⟩⟩, ⟨2, ⟨x.a, x.b⟩, ⟨0, 2000⟩⟩]⟩
def BIK (x : I2) : Prop := CL Try.prog (ann 21 []) BAS (AH BAS) (xI2 x) (AB []) (.d (Ef (oneM x))) [] [] [3064, 3192]
abbrev Ev:=oneM
abbrev Yv a b c:=WZ a 0 b c
abbrev Ce a b c d e:=Yv a b (Yv (Dx c) d e)
attribute [go_sem] Ev Yv Ce
theorem BKN (x : I2) : (BIK x) = (AE (KP (GA (Ev x)) 10) (BF (GA (Ev x)) 12) (FP (Wg (Ev x) 500) (Tp (Ev x) 10) (Va (Ev x) 5) (KR (Ev x) 3) (Tz 3) (λ i=>JN i (Ev x) (Ev x) i (Ce (BB i) 0 (BB i) 10 30) (Ev x) (Ce (BB i) 20 (BB i) 50 30)) (MR (Ev x) 2) (Tz 2) (AC (λ i=>GG i (Ev x) (OV (Ev x) i (Yv (BB i) 0 2)) (MO (Ev x) i (Yv (BB i) 0 (Ka x))) (BF (DM (Ev x) i) (Yv (BB i) 0 (De x))) (EG (BG (Ev x) i) (Yv (BB i) 0 0)) (BF (FI (BG (Ev x) i)) (Yv (BB i) 2000 2000)))))) := by kernel_rfl
def BHP := pD dI2 λ x => .d (Ef (oneM x))
theorem BOE : AK Try.prog AZE BHP := Ik xI2 hI2 λ g _ => Rc (A := ann 21 []) (ren := []) (fz := [3064, 3192]) BLU (by kernel_rfl) AD (by
 show BIK g; rw [BKN]<;> delta BA BI FW EX FI CE AC BX CM AQ DH JV ER GP GA HQ HT HC HR DS GB ED QT YY Uc Ka De Ev AE BG AW AG BF BE CK AR CN Tz AO CQ BS CV BO CR DD CF DM DR GG BB DJ EG CS WZ MR KR MO OV JC JN KP Dx FP Yv Ce Va Tp Wg; simp only [CC, eq_self, implies_true, forall_const]
 refine ⟨rfl, rfl, rfl, rfl, rfl, rfl, by decide, λ j hj => ?_, rfl, by decide, λ j hj => ?_⟩
 ·have hj : j < 3 := hj
  rcases j with _ | _ | _ | j
  ·exact ⟨rfl, rfl⟩
  ·exact ⟨rfl, rfl⟩
  ·exact ⟨rfl, rfl⟩
  ·omega
 ·have hj : j < 2 := hj
  rcases j with _ | _ | j
  ·exact ⟨rfl, rfl, rfl, rfl, rfl⟩
  ·exact ⟨rfl, rfl, rfl, rfl, rfl⟩
  ·omega)
def APF : Ann := ann 249 [(AZE, BHP), (W8, C_Stages.spec oQ), (AEQ, C_Times.spec dCZ), (ADG, C_samS.spec dSS2), (AFU, C_Stops.spec oQ), (AEL, C_Pairs.spec oQ), (Y6, C_prov.spec dPrv), (AEB, C_samP.spec dPP2), (L2, C_Stage.spec dCZI), (AHV, C_Peak.spec dCZ2), (N3, C_First.spec dCZI)]
def APG : Prop := CL Try.prog APF ADY (AH ADY) [] (AB []) (.bool true) [] [] []
abbrev ACS:=Sym.elemOf
abbrev Fm:=EJ 2
abbrev Bd:=EJ 3
abbrev AQN a b:=Ev (I2.mk a b)
abbrev kU:=AQN 310 320
abbrev Yk a:=BG kU a
abbrev aA a:=IT kU a
abbrev Zs a:=DM kU a
abbrev Yo a:=GT kU a
abbrev Zp a:=FQ kU a
abbrev Xt a:=EP kU a
abbrev kP a b c:=LM a 3 b c b
abbrev Xw a b:=kP a kU b
abbrev YB:=BC 3
abbrev Fh:=Ca 5
abbrev OR:=Ca 10
abbrev Gd:=Ca 500
abbrev Fi:=Ca 12
abbrev MN:=AQN 400 410
abbrev jW:=rX MN
abbrev eM:=Ev (I2.mk 300 300)
attribute [go_sem] ACS Fm Bd AQN kU Yk aA Zs Yo Zp Xt kP Xw YB Fh OR Gd Fi MN jW eM
theorem AVA : (APG) = (aR (AE OR Fi (HJ Gd OR Fh YB (λ i=>Xw i i) PC (λ i=>MT i 2 (Xt i) (Zp i) (Yo i) (Zs i) (aA i) (Yk i)) Bd Fm)) (CW OR Fi Gd OR Fh (aR YB (AC (λ i=>Xw i i)) PC (AC (λ i=>MT i 2 (Xt i) (Zp i) (Yo i) (Zs i) (aA i) (Yk i))) AI Bd Fm Qn)) (CW OR Fi Gd OR Fh (aR YB (AC (λ i=>kP i eM i)) PC (AC (λ i=>MT i 2 (EP eM i) (FQ eM i) (GT eM i) (DM eM i) (IT eM i) (BG eM i))) AI Bd Fm Qn)) (AE (Hx (And YB (H8 (Ie 3 (Yn (EH kU))) YB (AC (λ i=>KH i 3 (EM (Ak 3 (λ j=>Di (Ce j 695 j 995 795) (Ce j 705 j 1005 805))) i) (Ce i 695 i 995 795) (LU (Ak 3 (λ j=>Di (Ce j 695 j 995 795) (Ce j 705 j 1005 805))) i) (Ce i 705 i 1005 805))) Bd))) (Hx (And YB (H8 (Ie 3 (WW (CZ.mk (EH kU) (SA 0 (λ i=>(@default Int Int.instInhabited)))))) YB (AC (λ i=>KH i 3 (EM (Ak 3 (λ j=>Di (Ce j 0 j 100 310) (Ce j 0 j 120 320))) i) (Ce i 0 i 100 310) (LU (Ak 3 (λ j=>Di (Ce j 0 j 100 310) (Ce j 0 j 120 320))) i) (Ce i 0 i 120 320))) Bd))) (Hx (DQ 1 3))) (AE OR Fi (HJ Gd OR Fh YB (λ i=>kP i MN i) PC (λ i=>MT i 2 (EP MN i) (FQ MN i) (GT MN i) (DM MN i) (IT MN i) (BG MN i)) (And Bd Fm) (BX AJ (DH 2 14)))) (HP OR Fi Gd OR Fh YB (AC (λ i=>kP i MN i)) (BY PC (λ i=>MT i 2 (EP MN i) (FQ MN i) (GT MN i) (DM MN i) (IT MN i) (BG MN i)) (Ca 1) Ac SH (AC (λ i=>CS i 1 (MK (iI 1 (λ j=>dPr (bZ (iV (ACS (kF (tH Xg) (tH (Pd 1))))) j))) i) 0 (MI (iI 1 (λ j=>dPr (bZ (iV (ACS (kF (tH Xg) (tH (Pd 1))))) j))) i) 1)) Bd Fm (EJ 1))) (CI OR Fi Gd OR Fh YB (DO (λ i=>kP i MN i) PC (λ i=>MT i 2 (EP MN i) (FQ MN i) (GT MN i) (DM MN i) (IT MN i) (BG MN i)) Ac SH (AC (λ i=>BE i 1 (JF (BQ (SA 1 (λ j=>0)) i)))) Bd Fm (EJ 1))) (AR (CI OR Fi Gd OR Fh YB (DO (λ i=>kP i MN i) PC (λ i=>MT i 2 (EP MN i) (FQ MN i) (GT MN i) (DM MN i) (IT MN i) (BG MN i)) Ac SH (AC (λ i=>BE i 1 (Nk (BQ (SA 1 (λ j=>1)) i)))) Bd Fm (EJ 1))) (G7 (Hx (And Ac (H8 (AC (λ i=>CS i 1 (MK (iI (WQ jW) (λ j=>Sp jW j)) i) (MK jW i) (MI (iI (WQ jW) (λ j=>Sp jW j)) i) (MI jW i))) Ac (AC (λ i=>CS i 1 (MK (iI 1 (λ j=>dPr (bZ (iV (ACS (kF (tH Xg) (tH (Pd 1))))) j))) i) 0 (MI (iI 1 (λ j=>dPr (bZ (iV (ACS (kF (tH Xg) (tH (Pd 1))))) j))) i) 1)) (EJ 1)))) (Hx (DQ 1 3))) (CI OR Fi Gd OR Fh YB (DO (λ i=>Xw i i) PC (λ i=>MT i 2 (Xt i) (Zp i) (Yo i) (Zs i) (aA i) (Yk i)) AI AI (Ca 50) Bd Fm Qn)) (CI OR Fi Gd OR Fh YB (DO (λ i=>Xw i i) PC (λ i=>MT i 2 (Xt i) (Zp i) (Yo i) (Zs i) (aA i) (Yk i)) AI AI (Ca 320) Bd Fm Qn)) (CI OR Fi Gd OR Fh YB (DO (λ i=>Xw i i) PC (λ i=>MT i 2 (Xt i) (Zp i) (Yo i) (Zs i) (aA i) (Yk i)) AI AI (Ca 321) Bd Fm Qn)) (HP OR Fi Gd OR Fh YB (AC (λ i=>Xw i i)) (Wd PC (AC (λ i=>MT i 2 (Xt i) (Zp i) (Yo i) (Zs i) (aA i) (Yk i))) AI AJ (Ca 110) Bd Fm Qn)) (CI OR Fi Gd OR Fh YB (DO (λ i=>Xw i i) PC (λ i=>MT i 2 (Xt i) (Zp i) (Yo i) (Zs i) (aA i) (Yk i)) AI AI (Ca 1000) Bd Fm Qn)) (CI OR Fi Gd OR Fh YB (DO (λ i=>Xw i i) PC (λ i=>MT i 2 (Xt i) (Zp i) (Yo i) (Zs i) (aA i) (Yk i)) AI AI (Ca 995) Bd Fm Qn)) HF)) := by kernel_rfl
def AQZ : List AVal -> Option (AVal × List Prop)
 | [] => some (.bool true, [])
 | _ => none
def ART : Sym.Spec := tC AQZ
theorem BDE : APG := by
 rw [AVA]<;> delta KY BA BI FW PR EX FI CE CU AC BX CM AQ LU BU WF DH HD LS JV ER GP GA HQ HT HC HR DS GB ED Ak IX YY BQ Uc SA Di WQ Sp iI AKB Wv cA vE Ev ACS AE BG AW EO GJ GI AG GM BF BE CK AR CN BD AF G7 JJ BC EZ aR Tz H8 Wd CQ GT BS CV JL BO CR DD KA CF DM DR DW RB DJ EG FC EY FG Uf AQN DC CS FV GR DF KB LQ FU EM EH ET GQ AN BY LP FY FJ EJ MF JS WZ Tx AI kU JF KV JZ HJ PM DQ MT IT KF LM CW EP FQ AJ IY OC CI PC MI MK Dx Ca TI Pd HF HP RP MJ DO MN Yv OR SH Xg KH WW NU YB iV Bd kF dJ Hx Fh Fm Gd Ac Fi Ce Ie rX kP Qn Yn eM Zp Xt aA Zs Yo Yk jW Nk Xw; simp only [CC, eq_self, implies_true, forall_const]
 decide +kernel
theorem ATX : AK Try.prog AGH ART := F9 λ xs v p h _ => by
 unfold AQZ at h; split at h
 ·cases h; exact Rc (A := APF) (ren := []) (fz := []) BAV (by kernel_rfl) (AA BOE (AA AWZ (AA BBA (AA BEZ (AA AXK (AA AVW (AA BFB (AA BEN (AA AKE (AA AQL (AA AJU AD))))))))))) BDE
 ·cases h
end Go.Bal
