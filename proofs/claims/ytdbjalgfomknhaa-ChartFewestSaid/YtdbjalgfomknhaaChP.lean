/- Package chart: Same, One. -/
import Derived.Test.YtdbjalgfomknhaaChL
set_option linter.unusedVariables false
set_option linter.unusedSimpArgs false
namespace Go.Bal
open Go Go.Sym Go.Proofs
structure SS2 where
 l : List Span
 m : List Span
def dSS2 : List AVal -> Heap -> Option (SS2 × List (Nat × Nat) × List Nat)
 | [x, y], H => match jU x H, jU y H with
  | some (l, f), some (m, e) => some (⟨l, m⟩, [], f ++ e)
  | _, _ => none
 | _, _ => none
def eqN (f : Nat -> Bool) : Nat -> Bool
 | 0 => true
 | k + 1 => eqN f k && f k
def eqS (x : SS2) (i : Nat) : Bool := (gD x.l i).lo == (gD x.m i).lo && (gD x.l i).hi == (gD x.m i).hi
def samS (x : SS2) : Bool := x.l.length == x.m.length && eqN (eqS x) x.l.length
def C_samS : Ctr := { α := SS2, xs := λ x => [.d (DW x.l), .d (DW x.m)], val := λ x => .bool (samS x), keep := λ _ => [], pre := λ x => [x.l.length < 4611686018427387904 /\ x.m.length < 4611686018427387904] }
def sa4 (x : SS2) : Shape := { α := Nat, dflt := 0, T := λ k => ⟨[(0, .d (DW x.l)), (1, .d (DW x.m)), (5, .int k)], []⟩, inv := λ k => k <= x.l.length /\ eqN (eqS x) k = true, meas := λ k => x.l.length - k }
def BZU (x : SS2) : Ann := { ann 26 [] with loops := λ id => if id = 4 then some [sa4 x] else none }
def CAM (x : SS2) : Prop := DN Try.prog (BZU x) BHT (AP BHT) (C_samS.xs x) (AH []) (C_samS.val x) [] [] []
abbrev Xz:=SS2.l
abbrev AHA:=SS2.m
attribute [go_sem] Xz AHA
theorem CBB (x : SS2) : (CAM x) = (FX (WW (Au (Xz x)) (Au (AHA x))) (HF (samS x)) (NQ (λ i=>DY (AN (MO (Xz x)) (KX (Xz x)) (MO (AHA x)) (KX (AHA x)) (CF i)) i (DR (Xz x)) (GX (eqN (eqS x) i))) (λ i=>CU (Od i (Xz x) (GX (eqN (eqS x) i))) i (Au (Xz x)) (EX (Br (BW i) (DR (Xz x)) (RF i) (BW i) (DR (AHA x))) (not (Kl (GK (Xz x) i) (GK (AHA x) i) (Kl (US (Xz x) i) (US (AHA x) i) PB))) (HF (samS x)) (GY (λ j=>DC (AN (MO (Xz x)) (KX (Xz x)) (MO (AHA x)) (KX (AHA x)) (BT j i)) (Od j (Xz x) (GX (eqN (eqS x) j))) (DR (Xz x)) j i))) (GX (samS x))))) := by kernel_rfl
theorem BOD {f : Nat -> Bool} : ∀ {n k : Nat}, k < n -> f k = false -> eqN f n = false
 | 0, k, h, _ => absurd h (Nat.not_lt_zero _)
 | n + 1, k, h, hg => by
  show (eqN f n && f n) = false
  by_cases e : k = n
  ·subst e; rw [hg, Bool.and_false]
  ·rw [BOD (show k < n by omega) hg]; rfl
theorem BXT {f : Nat -> Bool} {k : Nat} (h : eqN f k = true) (h2 : f k = true) : eqN f (k + 1) = true := by
 show (eqN f k && f k) = true
 rw [h, h2]; rfl
theorem CJW (x : SS2) (h : x.l.length < 4611686018427387904 /\ x.m.length < 4611686018427387904) : CAM x := by
 rw [CBB]<;> delta MF Sw BU CO TP WF CL DR AK CA DD AU ML BW GM FX WN KZ KB XF NR GY Ye PB WW Xz AHA AI AN BO BK BJ AM BL BV CD CJ IY GG KR EY FR DI IE DU LB GK GX OT BT LV HB DC MO OF By QT CU EX HF DY JJ KX CF LZ US RF UW Br NQ Au Kl Od; simp only [CC, eq_self, implies_true, forall_const]
 refine ⟨λ hn => ?_, λ hn => ⟨⟨0, rfl, Nat.zero_le _, rfl⟩, ?_⟩⟩
 ·unfold samS
  have : (x.l.length == x.m.length) = false := by simp at hn ⊢; omega
  rw [this]; rfl
 ·have hl : (x.l.length == x.m.length) = true := by simp at hn ⊢; omega
  have hl2 : x.l.length = x.m.length := by simpa using hl
  rintro k ⟨hk, he⟩
  refine ⟨λ hlt => ⟨⟨⟨by omega, by omega⟩, by omega, by omega⟩, λ hc => ?_, λ hc => ⟨k + 1, by rw [PE (by omega) (by omega)]; rfl, ⟨by omega, BXT he ?_⟩, by omega⟩⟩, λ hge => ?_⟩
  ·unfold samS
   rw [BOD (f := eqS x) (show k < x.l.length by omega) (by rw [Bool.and_true] at hc; exact hc), Bool.and_false]
  ·rw [Bool.and_true] at hc; exact hc
  ·obtain rfl : k = x.l.length := by omega
   unfold samS; rw [hl, he]; rfl
theorem CCI : AR Try.prog BHU (C_samS.spec dSS2) := Jp C_samS BZU [] [] BTS (λ _ => by kernel_rfl) (λ _ => AL) (λ (x : SS2) h => CJW x h) (λ _ => Mi rfl rfl) _
structure PP2 where
 l : List Pr
 m : List Pr
def dPP2 : List AVal -> Heap -> Option (PP2 × List (Nat × Nat) × List Nat)
 | [x, y], H => match dPrs x H, dPrs y H with
  | some (l, f), some (m, e) => some (⟨l, m⟩, [], f ++ e)
  | _, _ => none
 | _, _ => none
def eqP (x : PP2) (i : Nat) : Bool := (gD x.l i).a == (gD x.m i).a && (gD x.l i).b == (gD x.m i).b
def samP (x : PP2) : Bool := x.l.length == x.m.length && eqN (eqP x) x.l.length
def C_samP : Ctr := { α := PP2, xs := λ x => [.d (Wt x.l), .d (Wt x.m)], val := λ x => .bool (samP x), keep := λ _ => [], pre := λ x => [x.l.length < 4611686018427387904 /\ x.m.length < 4611686018427387904] }
def sq4 (x : PP2) : Shape := { α := Nat, dflt := 0, T := λ k => ⟨[(0, .d (Wt x.l)), (1, .d (Wt x.m)), (5, .int k)], []⟩, inv := λ k => k <= x.l.length /\ eqN (eqP x) k = true, meas := λ k => x.l.length - k }
def BUW (x : PP2) : Ann := { ann 26 [] with loops := λ id => if id = 4 then some [sq4 x] else none }
def BVF (x : PP2) : Prop := DN Try.prog (BUW x) BGG (AP BGG) (C_samP.xs x) (AH []) (C_samP.val x) [] [] []
abbrev Pn a:=LH (PP2.l a)
abbrev aD a b:=AK (λ i=>Tn i a b)
abbrev F5 a:=LH (PP2.m a)
attribute [go_sem] Pn aD F5
theorem CBP (x : PP2) : (BVF x) = (FX (WW (BW (Pn x)) (BW (F5 x))) (HF (samP x)) (NQ (λ i=>DY (AN (BV (Pn x)) (aD (Pn x) (PP2.l x)) (BV (F5 x)) (aD (F5 x) (PP2.m x)) (CF i)) i (Pn x) (GX (eqN (eqP x) i))) (λ i=>CU (LZ i (Pn x) (GX (eqN (eqP x) i))) i (BW (Pn x)) (EX (Br (BW i) (Pn x) (RF i) (BW i) (F5 x)) (not (Kl (VJ (PP2.l x) i) (VJ (PP2.m x) i) (Kl (XX (PP2.l x) i) (XX (PP2.m x) i) PB))) (HF (samP x)) (GY (λ j=>DC (AN (BV (Pn x)) (aD (Pn x) (PP2.l x)) (BV (F5 x)) (aD (F5 x) (PP2.m x)) (BT j i)) (LZ j (Pn x) (GX (eqN (eqP x) j))) (Pn x) j i))) (GX (samP x))))) := by kernel_rfl
theorem CJO (x : PP2) (h : x.l.length < 4611686018427387904 /\ x.m.length < 4611686018427387904) : BVF x := by
 rw [CBP]<;> delta MF Sw TP WF CL AK CA DD AU BW GM FX WN KZ KB XF NR GY Ye PB WW LH Fm AI AN BK AM BV CD IY GG KR EY FR XX DI IE VJ DU LB GX OT BT LV HB DC OF CU bT uI EX HF DY JJ Tn CF aD LZ RF UW Br NQ Pn Kl F5; simp only [CC, eq_self, implies_true, forall_const]
 refine ⟨λ hn => ?_, λ hn => ⟨⟨0, rfl, Nat.zero_le _, rfl⟩, ?_⟩⟩
 ·unfold samP
  have : (x.l.length == x.m.length) = false := by simp at hn ⊢; omega
  rw [this]; rfl
 ·have hl : (x.l.length == x.m.length) = true := by simp at hn ⊢; omega
  have hl2 : x.l.length = x.m.length := by simpa using hl
  rintro k ⟨hk, he⟩
  refine ⟨λ hlt => ⟨⟨⟨by omega, by omega⟩, by omega, by omega⟩, λ hc => ?_, λ hc => ⟨k + 1, by rw [PE (by omega) (by omega)]; rfl, ⟨by omega, BXT he ?_⟩, by omega⟩⟩, λ hge => ?_⟩
  ·unfold samP
   rw [BOD (f := eqP x) (show k < x.l.length by omega) (by rw [Bool.and_true] at hc; exact hc), Bool.and_false]
  ·rw [Bool.and_true] at hc; exact hc
  ·obtain rfl : k = x.l.length := by omega
   unfold samP; rw [hl, he]; rfl
theorem CBE : AR Try.prog BFJ (C_samP.spec dPP2) := Jp C_samP BUW [] [] CAJ (λ _ => by kernel_rfl) (λ _ => AL) (λ (x : PP2) h => CJO x h) (λ _ => Mi rfl rfl) _
def oneM (x : I2) : Cht := ⟨⟨10, 12⟩, 500, 10, 5, [⟨0, 20⟩, ⟨10, 50⟩, ⟨30, 30⟩], [⟨0, ⟨0, 0⟩, ⟨0, 2000⟩⟩, ⟨2, ⟨x.a, x.b⟩, ⟨0, 2000⟩⟩]⟩
def CFN (x : I2) : Prop := DN Try.prog (ann 21 []) BYL (AP BYL) (xI2 x) (AH []) (.d (Rc (oneM x))) [] [] [3064, 3192]
abbrev Mu:=oneM
abbrev AOW a b:=YE a b b
abbrev xC a b c:=VD a 0 b c
abbrev Bp a b c d e:=xC a b (xC (Av c) d e)
attribute [go_sem] Mu AOW xC Bp
theorem CIU (x : I2) : (CFN x) = (AI (SY (HA (Mu x)) 10) (BO (HA (Mu x)) 12) (AO (Hn (Mu x) 500) (Gg (Mu x) 10) (Hg (Mu x) 5) (OC (Mu x) 3) (Wi 3) (AK (λ i=>MB i (Mu x) (Mu x) i (Bp (BH i) 0 (BH i) 10 30) (Bp (BH i) 20 (BH i) 50 30))) (LR (Mu x) 2) (Wi 2) (AK (λ i=>JK i (Mu x) (xC (BH i) 0 2) (xC (BH i) 0 (Jw x)) (BO (FQ (BG (Mu x) i)) (xC (BH i) 0 (Ef x))) (EA (BG (Mu x) i) (AOW (Vy (BH i) 0) 0)) (BO (FP (BG (Mu x) i)) (AOW (Vy (BH i) 0) 2000)))))) := by kernel_rfl
def CHD := pD dI2 λ x => .d (Rc (oneM x))
theorem CIT : AR Try.prog BWU CHD := dS xI2 hI2 λ g _ => Su (A := ann 21 []) (ren := []) (fz := [3064, 3192]) CJI (by kernel_rfl) AL (by
 show CFN g; rw [CIU]<;> delta BU CO FM FQ FP CL AK CA DD AU GM NR IV HC HA HZ ID IA JD GN FW FY ZA YE Vy Jw Ef Mu AI BG DV AN BO BK CG BB BY AO AOW Wi CS CD CX DM CR DP DH DQ EA HY ER BH VD LR OC Av SY JK MB xC Hg Gg Hn Bp; simp only [CC, eq_self, implies_true, forall_const]
 refine ⟨rfl, rfl, rfl, rfl, rfl, rfl, by decide, λ j hj => ?_, rfl, by decide, λ j hj => ?_⟩
 ·have hj : j < 3 := hj
  rcases j with _ | _ | _ | j
  ·exact ⟨rfl, rfl⟩
  ·exact ⟨rfl, rfl⟩
  ·exact ⟨rfl, rfl⟩
  ·omega
 ·have hj : j < 2 := hj
  rcases j with _ | _ | j
  ·exact ⟨rfl, rfl, rfl, rfl, rfl⟩
  ·exact ⟨rfl, rfl, rfl, rfl, rfl⟩
  ·omega)
def BQQ : Ann := ann 249 [(BWU, CHD), (BCA, C_Stages.spec dC1), (BHM, C_Times.spec dCZ), (BHU, C_samS.spec dSS2), (AEO, C_Stops.spec dC1), (AGI, C_Pairs.spec dC1), (mH, C_prov.spec dPrv), (BFJ, C_samP.spec dPP2), (BFV, C_Stage.spec dCZI), (BLP, C_Peak.spec dCZ2), (BGI, C_First.spec dCZI)]
def BPT : Prop := DN Try.prog BQQ BHK (AP BHK) [] (AH []) (.bool true) [] [] []
abbrev BRC:=@Prod.fst (List Span) Int
abbrev Gn:=DS 2
abbrev Ck:=DS 3
abbrev BQS a b:=Mu (I2.mk a b)
abbrev ZX:=BQS 310 320
abbrev kH a:=BG ZX a
abbrev lK a:=IL ZX a
abbrev kP a:=IP ZX a
abbrev iX a:=IS ZX a
abbrev lN a:=IM ZX a
abbrev Hp a b c d e:=GD a 3 b c b b d b e
abbrev ZM:=BV 3
abbrev Hk:=NM 5
abbrev NX:=NM 10
abbrev Hf:=NM 500
abbrev Hb:=NM 12
abbrev ACS a b c:=CA a (HB b c)
abbrev KV:=BQS 400 410
abbrev rN:=Mu (I2.mk 300 300)
attribute [go_sem] BRC Gn Ck BQS ZX kH lK kP iX lN Hp ZM Hk NX Hf Hb ACS KV rN
theorem BTT : (BPT) = (cS (AI NX Hb (DO Hf NX Hk ZM (λ i=>Hp i ZX i i i) Dm (λ i=>FT i 2 (lN i) (iX i) (kP i) (lK i) ZX i (kH i)) Ck Gn)) (CE NX Hb Hf NX Hk (cS ZM (AK (λ i=>Hp i ZX i i i)) Dm (AK (λ i=>FT i 2 (lN i) (iX i) (kP i) (lK i) ZX i (kH i))) AJ Ck Gn Gz)) (CE NX Hb Hf NX Hk (cS ZM (AK (λ i=>Hp i rN i i i)) Dm (AK (λ i=>FT i 2 (IM rN i) (IS rN i) (IP rN i) (IL rN i) rN i (BG rN i))) AJ Ck Gn Gz)) (AI (Hv (And ZM (AVS (Up 3 (BRC (Wo (CV ZX)))) ZM (AK (λ i=>YP i 3 (GK (Wy 3 (λ j=>Ed (Bp j 695 j 995 795) (Bp j 705 j 1005 805))) i) (Bp i 695 i 995 795) (ML (Wy 3 (λ j=>Ed (Bp j 695 j 995 795) (Bp j 705 j 1005 805))) i) (Bp i 705 i 1005 805))) Ck))) (Hv (And ZM (AVS (Up 3 (BRC (timR (CZ.mk (CV ZX) (NJ 0 (λ i=>(@default Int Int.instInhabited))))))) ZM (AK (λ i=>YP i 3 (GK (Wy 3 (λ j=>Ed (Bp j 0 j 100 310) (Bp j 0 j 120 320))) i) (Bp i 0 i 100 310) (ML (Wy 3 (λ j=>Ed (Bp j 0 j 100 310) (Bp j 0 j 120 320))) i) (Bp i 0 i 120 320))) Ck))) (ACS GP 1 3)) (AI NX Hb (DO Hf NX Hk ZM (λ i=>Hp i KV i i i) Dm (λ i=>FT i 2 (IM KV i) (IS KV i) (IP KV i) (IL KV i) KV i (BG KV i)) (And Ck Gn) (CA BM (ZQ 2)))) (BQ NX Hb Hf (AN NX Hk ZM (AK (λ i=>Hp i KV i i i)) (DJ Dm (λ i=>FT i 2 (IM KV i) (IS KV i) (IP KV i) (IL KV i) KV i (BG KV i)) (NM 1) TB XG (AK (λ i=>ON i 1 (AHC 1 (λ j=>dPr (C6 (AWO (Sym.elemOf (AKC (ofV ABR) (ofV (bU 1)) AOB)) AOB) j))) 0 1)) Ck Gn (DS 1)))) (CM NX Hb Hf NX Hk ZM (RB (λ i=>Hp i KV i i i) Dm (λ i=>FT i 2 (IM KV i) (IS KV i) (IP KV i) (IL KV i) KV i (BG KV i)) TB XG (AK (λ i=>BK i 1 (DK (DE (NJ 1 (λ j=>0)) i)))) Ck Gn (DS 1))) (AO (CM NX Hb Hf NX Hk ZM (RB (λ i=>Hp i KV i i i) Dm (λ i=>FT i 2 (IM KV i) (IS KV i) (IP KV i) (IL KV i) KV i (BG KV i)) TB XG (AK (λ i=>BK i 1 (AU (DE (NJ 1 (λ j=>1)) i) 1))) Ck Gn (DS 1))) (Fp (Hv (And TB (AVS (OJ 1 (Mq (kU KV)) (kU KV)) TB (AK (λ i=>ON i 1 (AHC 1 (λ j=>dPr (C6 (AWO (Sym.elemOf (AKC (ofV ABR) (ofV (bU 1)) AOB)) AOB) j))) 0 1)) (DS 1)))) (ACS GP 1 3)) (CM NX Hb Hf NX Hk ZM (RB (λ i=>Hp i ZX i i i) Dm (λ i=>FT i 2 (lN i) (iX i) (kP i) (lK i) ZX i (kH i)) AJ AJ (NM 50) Ck Gn Gz)) (CM NX Hb Hf NX Hk ZM (RB (λ i=>Hp i ZX i i i) Dm (λ i=>FT i 2 (lN i) (iX i) (kP i) (lK i) ZX i (kH i)) AJ AJ (NM 320) Ck Gn Gz)) (CM NX Hb Hf NX Hk ZM (RB (λ i=>Hp i ZX i i i) Dm (λ i=>FT i 2 (lN i) (iX i) (kP i) (lK i) ZX i (kH i)) AJ AJ (NM 321) Ck Gn Gz)) (BQ NX Hb Hf (AN NX Hk ZM (AK (λ i=>Hp i ZX i i i)) (Bh Dm (AK (λ i=>FT i 2 (lN i) (iX i) (kP i) (lK i) ZX i (kH i))) AJ BM (NM 110) Ck Gn Gz))) (CM NX Hb Hf NX Hk ZM (RB (λ i=>Hp i ZX i i i) Dm (λ i=>FT i 2 (lN i) (iX i) (kP i) (lK i) ZX i (kH i)) AJ AJ (NM 1000) Ck Gn Gz)) (CM NX Hb Hf NX Hk ZM (RB (λ i=>Hp i ZX i i i) Dm (λ i=>FT i 2 (lN i) (iX i) (kP i) (lK i) ZX i (kH i)) AJ AJ (NM 995) Ck Gn Gz)) GP)) := by kernel_rfl
def BQT : List AVal -> Option (AVal × List Prop)
 | [] => some (.bool true, [])
 | _ => none
def BQO : Sym.Spec := APC BQT
theorem CDZ : BPT := by
 rw [BTT]<;> delta MF BU CO FM WF FQ FP CL DR AK CA DD AU ML BW Aj GM KZ KB NR IV HC HA HZ ID IA JD GN FW FY Wy PB YE DE Vy NJ Ed LH Fm AHC AWO AOB gV Ir Mu BRC AI BG DV EN GF AN BO BK CG BJ AO AM HS Fp FZ BV ED Wi cS AVS Bh CS GS CD IW CX DM CR DP EU BQS CV DH DQ GJ EA EI gU DG FU EH ER AJ FR XX DI GC HI EF VJ GI DS FH LB HQ GK JG HR PX FI ZX FT cD IR GD JH BQ VD DK DO HB Mq IL IP IS IM NM RB CM VK BM CE ON Av Ge Pf PI bU XG GP Ou MQ OJ DJ AKC UI xC Az KV ACS NX QJ Hv ABR ZM Ck Dm ZH Hk Gn TB Hf Bp Hb ZQ Gz YP Up Hp lN iX kP lK kH rN kU; simp only [CC, eq_self, implies_true, forall_const]
 decide +kernel
theorem AYK : AR Try.prog BGR BQO := AWR λ xs v p h _ => by
 unfold BQT at h; split at h
 ·cases h; exact Su (A := BQQ) (ren := []) (fz := []) BVH (by kernel_rfl) (AC CIT (AC BXQ (AC CAT (AC CCI (AC BXI (AC BZT (AC CDB (AC CBE (AC CAO (AC CBY (AC CAV AL))))))))))) CDZ
 ·cases h
end Go.Bal
