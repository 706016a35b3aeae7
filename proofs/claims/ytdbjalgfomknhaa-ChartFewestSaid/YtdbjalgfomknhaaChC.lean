/- Package chart: stages. -/
import Derived.Test.YtdbjalgfomknhaaChB
import Derived.Test.YtdbjalgfomknhaaSym12
set_option linter.unusedVariables false
set_option linter.unusedSimpArgs false
namespace Go.Bal
open Go Go.Sym Go.Proofs
def atM (c : Cht) (k : Int) : Int := wr (c.base + wr (c.scale * (gD c.ms k.toNat).ht))
def st0 (c : Cht) (k : Int) : Span := ⟨wr (atM c k - c.off), wr (atM c k + c.off)⟩
def Zi (c : Cht) (k : Int) : Span := bif hasN c.ns k then com (st0 c k) (ntOf c.ns k).s else st0 c k
structure DkI where
 w : Dk
 k : Int
def dDkI : List AVal -> Heap -> Option (DkI × List (Nat × Nat) × List Nat)
 | [.bptr id _, .d k], H => match AGR H id with
  | some (w, q) => some (⟨w, JQ k⟩, [(100, id), (101, q)], [])
  | none => none
 | _, _ => none
def C_stg : Ctr := { ro := [100, 101], α := DkI, xs := λ a => [.bptr 100 0, .int a.k], L := λ a => dkL a.w, val := λ a => .d (JS (Zi a.w.c a.k)), keep := λ a => dkK a.w, pre := λ a => [0 <= a.k /\ a.k < a.w.c.ms.length] }
def CHF : Ann := { ann 61 [(ANW, C_com.spec CAP)] with E := [100, 101] }
def CHG (a : DkI) : Prop := DN Try.prog CHF BBX (AP BBX) (C_stg.xs a) (AH (C_stg.L a)) (C_stg.val a) (C_stg.keep a) [] []
abbrev AHH:=DkI.k
abbrev uU:=@HMul.hMul Int Int Int (@instHMul Int Int.instMul)
abbrev Ed:=Span.mk
abbrev LP a b:=XD a (KO b a)
abbrev IF a b (c:Int->Nt):=VX a (λ i=>LP i b) b c
abbrev UK a b:=IF a b (λ i=>IK b i)
abbrev Iw a:=AQ (DkI.w a)
abbrev jT a:=IA (Iw a)
abbrev kC a b:=GG (HZ (Iw a)) b
abbrev Km a b:=IY (uU a b)
abbrev kV a b c:=Km (ID (Iw a)) (DH (Iw b) (JW (AHH c)))
abbrev Ud a b c d e f g:=AO a b c d e (BE f) (BD f) (AW f) g
abbrev Hi a b c d e f:=Ud a b c d (AZ e) e f
abbrev LI a b c d e:=Hi a b c (BA d) d e
abbrev Js a:=Wy 1 (λ i=>a)
abbrev X4 a:=Js (FP a)
abbrev iV a b:=IK (DkI.w a) (AHH b)
abbrev Wi a:=GM a a
abbrev XG:=Wi 1
abbrev JN a b:=CL (DR a) b
attribute [go_sem] AHH uU Ed LP IF UK Iw jT kC Km kV Ud Hi LI Js X4 iV Wi XG JN
theorem CIP (a : DkI) : (CHG a) = (JJ (AHH a) (BY (Iw a)) (PY (Value.agg (BCH (pU (kO (kO AZT))))) D2) (FX (OO (Iw a) (AHH a)) (LI (CE (AM (KY (kC a (kV a a a)) (jT a))) (AM (GG (kC a (kV a a a)) (jT a))) (JN (X4 (iV a a)) 1) XG (AK (λ i=>DP i (DR (X4 (iV a a))) (GK (X4 (iV a a)) i) (CS (iV a a)) (EU (ML (X4 (iV a a)) i) (iV a a)))) GP) (GV (Zi (Iw a) (AHH a)) (comM (SL.mk (Ed (KY (kC a (kV a a a)) (jT a)) (GG (kC a (kV a a a)) (jT a))) (X4 (iV a a))))) (BJ (Zi (Iw a) (AHH a)) (comM (SL.mk (Ed (KY (kC a (kV a a a)) (jT a)) (GG (kC a (kV a a a)) (jT a))) (X4 (iV a a))))) (Iw a) (UK (Iw a) (DkI.w a))) (BQ (SY (Zi (Iw a) (AHH a)) (KY (kC a (kV a a a)) (jT a))) (BO (Zi (Iw a) (AHH a)) (GG (kC a (kV a a a)) (jT a))) (BA (Iw a)) (AN (AZ (Iw a)) (BE (Iw a)) (BD (Iw a)) (AW (Iw a)) (UK (Iw a) (DkI.w a)))))) := by kernel_rfl
theorem CNK (a : DkI) (h : 0 <= a.k /\ a.k < a.w.c.ms.length) : CHG a := by
 rw [CIP]<;> delta MF BU CO FM TP WF Ua FQ FP CL DR AK CA DD AU ML BW GM FX KZ KB XF IV HC HA HZ ID IA JD GN FW FY Wy PB JW PY BCH AZT BI NH AQ OE KO AHH uU Ed AI BG DV AN BO BK CG BJ BB BY AO AM BL BV ED Wi NK CS CD CJ CX DM AZ IY CR DP EU DH BA AW HD DQ GG HY DG BD FS FU IK BE OZ FR OO DI MN KP EO BC KY XD LB GK KU GO TL Bf LD LG VO Iw BQ MK OG HB LP EL MX NF QA CE BS QQ OH SY JN NA bU GV XG GP JJ UR VX Km IF Ud ABR Hi UK pU Js kO LI jT iV kC kV X4; simp only [CC, eq_self, implies_true, forall_const]
 cases hq : hasN a.w.c.ns a.k with
 | true =>
  have e : Zi a.w.c a.k = com (st0 a.w.c a.k) (ntOf a.w.c.ns a.k).s := by unfold Zi; rw [hq]; rfl
  refine ⟨h, rfl, λ _ => ⟨⟨by omega, λ j hj => ?_⟩, ?_, ?_⟩, λ h => by cases h⟩
  ·rw [EK _ _ _ hj]; exact ⟨rfl, rfl⟩
  ·rw [e]; rfl
  ·rw [e]; rfl
 | false =>
  have e : Zi a.w.c a.k = st0 a.w.c a.k := by unfold Zi; rw [hq]; rfl
  refine ⟨h, rfl, (λ h => by cases h), λ _ => ⟨?_, ?_⟩⟩
  ·rw [e]; rfl
  ·rw [e]; rfl
theorem CJP : AR Try.prog AZO (C_stg.spec dDkI) := Jp C_stg (λ _ => CHF) [] [] BSM (λ _ => by kernel_rfl) (λ _ => AC CAU AL) (λ a h => CNK a h) (λ _ => Mi rfl rfl) _
def rowS (l : List Span) : AObj := .row 2 l.length λ i => JS (gD l i)
def C4SaO : Ctr := { ro := [100], α := MSa, xs := λ a => [.own 100 2 0 a.l.length, fvSa a.q], L := λ a => [(100, rowS a.l)], val := λ a => .bool (a.l.all jN), keep := λ a => [(100, .live (rowS a.l))], pre := PSa }
def CEY : List AVal -> Heap -> Option (MSa × List (Nat × Nat) × List Nat)
 | [.own id _ _ _, .fn _ _ _], H => match H id with
  | .live (.row _ n g) => some (⟨default, HX n λ i => Ms (g i)⟩, [(100, id)], [])
  | _ => none
 | _, _ => none
def C4SnO : Ctr := { ro := [100], α := MSn, xs := λ a => [.own 100 2 0 a.l.length, fvSn a.q], L := λ a => [(100, rowS a.l)], val := λ a => .bool (a.l.all jN), keep := λ a => [(100, .live (rowS a.l))], pre := PSn }
def CGM : List AVal -> Heap -> Option (MSn × List (Nat × Nat) × List Nat)
 | [.own id _ _ _, .fn _ _ _], H => match H id with
  | .live (.row _ n g) => some (⟨default, HX n λ i => Ms (g i)⟩, [(100, id)], [])
  | _ => none
 | _, _ => none
theorem CJY : AR Try.prog n_eS (C4SaO.spec CEY) := okT C4SaO (λ (a : MSa) h => by
 have hf := CHW a h
 refine FnT.lend (fz := [100]) (xs := [.own 100 2 0 a.l.length, fvSa a.q]) (L := [(100, rowS a.l)]) hf rfl ?_ rfl ?_ _ ?_
 ·show [AVal.d (.list 2 a.l.length (λ j => JS (gD a.l (0 + j))) false), _] = _
  simp only [Nat.zero_add]; rfl
 ·show 0 + a.l.length <= a.l.length; omega
 ·exact ⟨rfl, trivial⟩) _
theorem CJR : AR Try.prog n_eS (C4SnO.spec CGM) := okT C4SnO (λ (a : MSn) h => by
 have hf := CNL a h
 refine FnT.lend (fz := [100]) (xs := [.own 100 2 0 a.l.length, fvSn a.q]) (L := [(100, rowS a.l)]) hf rfl ?_ rfl ?_ _ ?_
 ·show [AVal.d (.list 2 a.l.length (λ j => JS (gD a.l (0 + j))) false), _] = _
  simp only [Nat.zero_add]; rfl
 ·show 0 + a.l.length <= a.l.length; omega
 ·exact ⟨rfl, trivial⟩) _
def Lr (c : Cht) : List Span := HX c.ms.length λ i => Zi c (i : Int)
def ZC (c : Cht) : Bool := (Lr c).all jN
def dDk1 : List AVal -> Heap -> Option (Dk × List (Nat × Nat) × List Nat)
 | [.bptr id _], H => match AGR H id with
  | some (w, q) => some (w, [(100, id), (101, q)], [])
  | none => none
 | _, _ => none
def C_all : Ctr := { ro := [100, 101], α := Dk, xs := λ _ => [.bptr 100 0], L := λ w => dkL w, val := λ w => .tup [.d (DW (Lr w.c)), .bool (ZC w.c)], keep := λ w => dkK w, pre := λ w => [1 <= w.c.ms.length /\ w.c.ms.length <= 40] }
def al3n (w : Dk) : Shape := { α := One, dflt := default, T := λ _ => ⟨[(0, .bptr 100 0), (4, .d UJ), (11, .int w.c.ms.length), (12, .int 0)], dkK w⟩, inv := λ _ => True, meas := λ _ => 50 }
def al3o (w : Dk) : Shape := { α := Nat, dflt := 0, T := λ k => ⟨[(0, .bptr 100 0), (4, .own 202 2 0 k), (11, .int w.c.ms.length), (12, .int k)], dkK w ++ [(202, .live (.row 2 k λ i => JS (Zi w.c (i : Int))))]⟩, inv := λ k => 1 <= k /\ k <= w.c.ms.length, meas := λ k => 40 - k, again := [(202, 6080)] }
def CGU (w : Dk) : Ann := { ann 25 [(AZO, C_stg.spec dDkI), (n_eS, orS (C4SaO.spec CEY) (C4Sa.spec d4Sa))] with E := [100, 101], mt := λ id => id == 5, loops := λ id => if id = 3 then some [al3n w, al3o w] else none }
def CEV (w : Dk) : Prop := DN Try.prog (CGU w) BVO (AP BVO) (C_all.xs w) (AH (C_all.L w)) (C_all.val w) (C_all.keep w) [] [202]
abbrev WZ:=@Exists One
abbrev Mz:=λ (f : One -> Prop) => ∀ (x : One), f x
abbrev TF:=Lr
abbrev eD:=ZC
abbrev Ze:=@HMul.hMul Nat Nat Nat (@instHMul Nat instMulNat)
abbrev Uw a b:=UK (AQ a) b
abbrev WK a:=AW (AQ a)
abbrev WO a:=BD (AQ a)
abbrev WS a:=BE (AQ a)
abbrev QI a:=AZ (AQ a)
abbrev QM a:=BA (AQ a)
abbrev BBC a b:=Zi a (BW b)
abbrev Hl a b:=BBC (AQ a) b
abbrev jY a b:=Wy a (λ i=>Hl b i)
abbrev We a b:=ML (TF a) b
abbrev YN a b:=GM (BH a) b
abbrev MT a:=YN a a
abbrev AJ:=BV 0
abbrev Mb a:=And AJ a
abbrev Cr a b:=AI a a b
abbrev Am a b c d:=And (AI a b c) d
abbrev Ab a b c:=And a (GM b c)
abbrev SJ a:=GM 1 a
abbrev QO a b:=Ab (SJ a) a b
abbrev Fg a:=BY (AQ a)
abbrev YP a b c d e f:=DP a b c d (BO e f)
abbrev LY a b c d:=YE ((λ (x0 x1 : Nat) => decide (x0 < x1)) a b) c d
abbrev Vj a:=CV (AQ a)
abbrev MP a:=ZA a 1
abbrev VT a b:=CL a (MP b)
abbrev Vt (a:Int->Nt):=BI (λ i=>NA (a i))
abbrev EC a:=BI (λ i=>QQ a i)
abbrev rB a:=Bf (AQ a)
abbrev EP a:=AK (λ i=>LP i a)
abbrev oW a:=EO (AQ a)
abbrev YR a:=GM a 140737488355328
abbrev Tx a b:=Ze (MP a) b
abbrev Uc a b:=GM (MP a) b
abbrev Ta a:=Uc a 9223372036854775807
abbrev Hc a:=KQ Sw a
abbrev LJ a:=DD 0 a
abbrev Vs:=Hc (LJ 1)
abbrev Hu a b c:=And a (BK 0 b (BV c))
abbrev jH:=Hu XG 1 2
abbrev Ty a b:=Hu (BV a) a b
abbrev Bn a:=Ty a 2
abbrev YG a b:=HB (BW a) b
abbrev FF a b c:=MM a (Fs b c)
abbrev XS a b c d:=YC a b (Ac c d)
abbrev EQ a:=BI (λ i=>XS a i a i)
abbrev HO a:=AK (λ i=>HN i a)
abbrev FG a b c:=MM (Fs a b) c
abbrev AWU a b c d e f g h:=AO a a b c d e f g h
abbrev Gz:=DS 0
abbrev MW a:=CL a 1
abbrev Kd:=EY 0
abbrev Uk:=SJ 9223372036854775807
abbrev Hv a:=CA GP a
abbrev To:=Hv (LJ 1)
abbrev Pj a b:=And a (BK 0 0 b)
abbrev Pu a:=Pj FO a
abbrev Oo a:=CL 0 a
abbrev Bz:=Pu (Oo 2)
abbrev LM a b:=AU a (Aj b)
abbrev sD a:=LM a 0
abbrev Xt:=sD 0
abbrev OW a:=OZ a 0 Sw
attribute [go_sem] WZ Mz TF eD Ze Uw WK WO WS QI QM BBC Hl jY We YN MT AJ Mb Cr Am Ab SJ QO Fg YP LY Vj MP VT Vt EC rB EP oW YR Tx Uc Ta Hc LJ Vs Hu jH Ty Bn YG FF XS EQ HO FG AWU Gz MW Kd Uk Hv To Pj Pu Oo Bz LM sD Xt OW
theorem CIY (w : Dk) : (CEV w) = (ZU (WZ (λ i=>BZ AJ (HQ OW (Bb (AQ w)) BM (QM w) (QI w) (WS w) (WO w) (WK w) (Uw w w)) FO)) (Mz (λ i=>OF FO 0 (ZY (AQ w)) (Am Xt (QM w) (AO (QI w) (WS w) (WO w) (WK w) (BR (AQ w)) (CW (AQ w)) (DF (AQ w)) (MY (AQ w)) (HQ (λ j=>LP j w) BC (EV (AQ w)) (EC w) (BI (λ j=>FG (AQ w) j (IK w j))) (QM w) (QI w) (WS w) (KM (WO w) (WK w) (DA (AQ w)) (HO (AQ w)) (DB (AQ w)) (UP (AQ w)) (λ j=>LP j w) BC (AO (EQ (AQ w)) (EC w) (BI (λ j=>FF (IK w j) (AQ w) j)) (And VU (FR 0 (CY (AQ w)))) Bz jH To Uk (YR 16))))) (GY (λ j=>OT (BQ AJ (MW j) (Bb (AQ w)) (AO (KR j Kd) (QM w) (QI w) (WS w) (WO w) (WK w) (oW w) (Ah (AQ w)) (AO (GO (AQ w)) (QG (AQ w)) (EP w) BC (rB w) (EC w) (Vt (λ k=>IK w k)) (MW j) (AK (λ k=>VK k j (BU (Hl w k)) (BU (Zi (Vj w) 0)) (Hl w k) (Zi (Vj w) 0)))))) (QO j (Fg w)) 40 j 50))) (MC AJ AJ Gz FO (AWU (JN (TF (AQ w)) 0) (GX (eD (AQ w))) (QM w) (QI w) (WS w) (WO w) (WK w) (Uw w w))))) (λ i=>CU (QO i (Fg w)) i (ZY (AQ w)) (Am (GA i) (QM w) (AO (QI w) (WS w) (WO w) (WK w) (BR (AQ w)) (CW (AQ w)) (DF (AQ w)) (MY (AQ w)) (HQ (λ j=>LP j w) BC (EV (AQ w)) (EC w) (BI (λ j=>FG (AQ w) j (IK w j))) (QM w) (QI w) (WS w) (KM (WO w) (WK w) (DA (AQ w)) (HO (AQ w)) (DB (AQ w)) (UP (AQ w)) (λ j=>LP j w) BC (AO (EQ (AQ w)) (EC w) (BI (λ j=>FF (IK w j) (AQ w) j)) (YG i (CY (AQ w))) (Bn i) jH Vs (Ta i) (YR (Tx i 16)))))) (GY (λ j=>DC (BQ AJ (VT j i) (Bb (AQ w)) (AO (BT j i) (QM w) (QI w) (WS w) (WO w) (WK w) (oW w) (Ah (AQ w)) (AO (GO (AQ w)) (QG (AQ w)) (EP w) BC (rB w) (EC w) (Vt (λ k=>IK w k)) (VT j i) (AK (λ k=>YP k j (BU (Hl w k)) (LY k i (BU (Hl w k)) (BU (BBC (Vj w) i))) (Hl w k) (LY k i (CO (Hl w k)) (CO (BBC (Vj w) i)))))))) (QO j (Fg w)) 40 j i))) (AI (Mb (Cr (JN (jY i w) i) (AN (AK (λ j=>MQ j (DR (jY i w)) (jY i w) (BU (Hl w j)) (Hl w j))) (CL i (DR (jY i w))) (AK (λ j=>VK j i (BU (Hl w j)) (GK (jY i w) j) (Hl w j) (ML (jY i w) j))) (DS (DR (jY i w))) FO))) (JN (TF (AQ w)) i) (DJ (MT i) (λ j=>PI j (DR (TF (AQ w))) (TF (AQ w)) (BU (Hl w (BH j))) (We (AQ w) j) (Hl w (BH j))) (MF (eD (AQ w)) (yP (jY i w) jN)) (QM w) (QI w) (WS w) (WO w) (WK w) (Uw w w))))) := by kernel_rfl
theorem CME (w : Dk) (h : 1 <= w.c.ms.length /\ w.c.ms.length <= 40) : CEV w := by
 obtain ⟨h1, h2⟩ := h
 rw [CIY]<;> delta MF Sw BU CO FM TP WF FQ FP CL DR AK CA DD AU ML BW Aj GM FX WN KZ KB XF NR IV HC HA HZ ID IA JD GN FW FY GY FO Wy yP PB ZA PY BI NH YE AQ OE KO WZ Mz TF eD Ze AI BG DV EN GF AN BO BK CG BJ BB BY AO AM HS FZ BL BV ED Wi Z7 Cr AWU NK CS GS CD IW CJ CX DM AZ IY CR CY DP MP EU CV DH BA AW HD Fs DQ GJ GG EA EI HY DG BD FS EJ FU IK KR BE EH ER OZ AJ EY FR OO BH DI BZ IE HM MN GC HI KP EF DU EO GI DS BC XD FH LB HQ GK GR JG HR GX KU GO FI LC Ab FT JU TL Bf LD JX IR KM We Ac LG GD NL JH ZY VO BQ OT BT LV SJ MK LR OG HB BR DC DF LP IL IP IS IM JZ EL CH MX OC NF RC NM QA OF VK WQ BM DB DA MM BS CW QQ OH KQ CU LJ QG EC JN NA PI JK BP MB Hu XG GP WG LY Ah Vt YR GA FV MQ HN UR VX EP YC Uc EV OW XS DJ FF LM IF CQ FG MW EQ YN QM BBC MT QI Kd Hc Hv Hl Pj Tx QO HO WS Pu To Vs Uk UK MY WO WK MC VT Ta Vj Fg Bb VU YG Ty UP Gz Oo YP Bz Am Bn ZU sD Uw jY rB Xt jH oW Mb; simp only [CC, eq_self, implies_true, forall_const, EB]
 refine ⟨⟨default, trivial⟩, ⟨λ h0 => ⟨⟨rfl, by omega, by omega, by omega, by omega, by omega, by omega⟩, 1, ⟨rfl, rfl, rfl, λ i hi => ?_⟩, by omega, by omega⟩, λ h0 => absurd h0 (by omega)⟩, λ k hk => ⟨λ hlt => ⟨⟨by omega, by omega, (λ h => by cases h), by omega, by omega⟩, k + 1, ⟨rfl, (HH (by omega)).symm, rfl, λ i hi => ?_⟩, by omega, by omega⟩, λ hge => ?_⟩⟩
 ·obtain rfl : i = 0 := by omega
  exact ⟨rfl, rfl⟩
 ·by_cases h : i < k
  ·simp [h]
  ·obtain rfl : i = k := by omega
   simp
 ·obtain rfl : k = w.c.ms.length := by omega
  refine ⟨⟨λ i hi => ?_, λ i hi => ?_, by omega⟩, rng_length _ _, by omega, λ j hj => ?_, rfl⟩
  ·rw [EK _ _ _ hi]; exact ⟨rfl, rfl⟩
  ·rw [EK _ _ _ hi]; exact ⟨rfl, rfl⟩
  ·have hj : j < w.c.ms.length := by simpa [Lr] using hj
   unfold Lr; rw [EK _ _ _ hj]; exact ⟨rfl, rfl⟩
theorem BFA : AR Try.prog BKY (C_all.spec dDk1) := Jp C_all CGU [] [202] CHZ (λ _ => by kernel_rfl) (λ _ => AC CJP (AC (BZC CJY COM) AL)) (λ w h => CME w h) (λ _ => Mi rfl rfl) _
def nilS : List Span := []
def Wo (c : Cht) : List Span × Int := bif BF c == 0 then bif ZC c then (Lr c, 0) else ([], 6) else ([], BF c)
def C_Stages : Ctr := { α := Cht, xs := λ c => [.d (Rc c)], val := λ c => .tup [.d (DW (Wo c).1), .int (Wo c).2], keep := λ _ => [], pre := λ c => [c.ms.length < 4611686018427387904 /\ c.ns.length < 4611686018427387904] }
def BKG : Ann := ann 24 [(VE, C_open.spec dC1), (BKY, C_all.spec dDk1)]
def BCS : Ann := ann 24 [(VE, C_openX.spec dC1)]
def BIX (c : Cht) : Prop := DN Try.prog BKG ADO (AP ADO) (C_Stages.xs c) (AH []) (.tup [.d (DW (bif ZC c then Lr c else [])), .int (bif ZC c then 0 else 6)]) [] [] []
abbrev BDG:=@cond (List Span)
abbrev BCR:=@List.nil Span
abbrev JO a (b:Nat->Prop) c:=AI a (AK b) c
abbrev ES a:=AY (CV a)
abbrev LO a b:=JN a (DR b)
abbrev kS a:=AU a 6
abbrev Ez a (b:Nat->Prop) c (d:Nat->Prop) (e:Nat->Prop) f (g:Int->Prop) h:=VO a b c d e BC f g h
abbrev UA a:=SJ (CY a)
abbrev RM:=AK Cm
abbrev NP a b c d e:=XM a b c (XW d (PN d)) e
attribute [go_sem] BDG BCR JO ES LO kS Ez UA RM NP
theorem BTH (c : Cht) : (BIX c) = (AI (NP c c c c (DK (IG c))) (CE (BA (ES c)) (AZ (ES c)) (BE (ES c)) (BD (ES c)) (AW (ES c)) (Ez (BR (ES c)) (λ i=>CH i (ES c)) (DF (ES c)) (λ i=>BP i (ES c)) Cm (EV (ES c)) (λ i=>jF (CV c) i) (AO (BI (λ i=>FG (ES c) i (Dp (CV c) i))) (BA (ES c)) (AZ (ES c)) (BE (ES c)) (BD (ES c)) (AW (ES c)) (DA (ES c)) (HO (ES c)) (DJ (DB (ES c)) (λ i=>CQ i (ES c)) RM BC (EQ (ES c)) (KF (CV c)) (BI (λ i=>FF (Dp (CV c) i) (ES c) i)) (UA (ES c)) (PA (ES c)))))) (FX (not (eD (CV (ES c)))) (Cr (JN (BDG (eD c) (TF c) BCR) 0) (kS (YE (eD c) 0 6))) (JO (LO (BDG (eD c) (TF c) BCR) (TF (CV (ES c)))) (λ i=>Az i (DR (BDG (eD c) (TF c) BCR)) (BDG (eD c) (TF c) BCR) (TF (CV (ES c))) (We (CV (ES c)) i)) (DK (YE (eD c) 0 6))))) := by kernel_rfl
def BEB (c : Cht) : Prop := DN Try.prog BCS ADO (AP ADO) (C_Stages.xs c) (AH []) (.tup [.d (DW nilS), .int (BF c)]) [] [] []
theorem BMP (c : Cht) : (BEB c) = (EX (NP c c c c (OY (IG c))) (Jq c) (Cr AJ (XZ c (IG c))) JY) := by kernel_rfl
theorem BXQ : AR Try.prog BCA (C_Stages.spec dC1) := okT C_Stages (λ (c : Cht) h => by
 obtain ⟨hm, hn⟩ : c.ms.length < 4611686018427387904 /\ c.ns.length < 4611686018427387904 := h
 by_cases h0 : BF c = 0
 ·have e : C_Stages.val c = .tup [.d (DW (bif ZC c then Lr c else [])), .int (bif ZC c then 0 else 6)] := by
   show AVal.tup [.d (DW (Wo c).1), .int (Wo c).2] = _
   unfold Wo; rw [h0]; cases ZC c <;> rfl
  have hl := QE h0
  rw [e]
  refine Su (A := BKG) (L := []) (keep := []) (ren := []) (fz := []) BEF (by kernel_rfl) (AC eS (AC BFA AL)) ?_
  show BIX c; rw [BTH]<;> delta MF Sw BU CO FM FQ FP CL DR AK CA DD AU ML GM FX IV HC HA HZ ID IA JD GN FW FY Ea PY BI NH YE AQ OE TF eD BDG BCR AI BG AY DV EN GF AN BO BK CG BJ BB BY AO AM HS FZ BL ED Cr NK CS GS CD IW CJ CX DM AZ CR CY Dp DP EU CV DH BA AW Fs DQ GJ EA EI ES HY DG BD EJ FU BE EH ER OZ OO HM GC HI EF GI DS BC XD FH GK GR JG HR FI LC FT JU TL JX IR We Ac GD NL JH VO Mw SJ DK DO LR BR DF IL IP IS IM JZ CH OC ME RC Cm VK WQ CE DB DA MM PN JO JN PI JK BP MB WG jF KF FV MQ HN YC EV XS DJ FF IG UI Az NV CQ FG LO EQ PA RM HO XW UA UT kS XM NP Ez; simp only [CC, eq_self, implies_true, forall_const, EB, zJ]
  refine ⟨⟨⟨hm, hn⟩, h0⟩, by omega, λ h => ?_, λ h => ?_⟩
  ·rw [h]; exact ⟨rfl, rfl, rfl⟩
  ·rw [h]; exact ⟨rfl, λ _ _ => ⟨rfl, rfl⟩, rfl⟩
 ·have h0' : (BF c == 0) = false := by simpa using h0
  have e : C_Stages.val c = .tup [.d (DW []), .int (BF c)] := by
   show AVal.tup [.d (DW (Wo c).1), .int (Wo c).2] = _
   unfold Wo; rw [h0']; rfl
  rw [e]
  refine Su (A := BCS) (L := []) (keep := []) (ren := []) (fz := []) BEF (by kernel_rfl) (AC oE AL) ?_
  show BEB c; rw [BMP]<;> delta BU CO FM FQ FP CL AK CA DD AU FX IV HC HA HZ ID IA JD GN FW FY Ea WW JY AI BG DV EN GF AN BO BK CG BJ BB BY AO AM HS FZ BL BV Cr CS GS CD IW CJ CX DM AZ CR CY DP EU CV DH BA AW DQ GJ EA EI DG BD EJ FU BE EH ER AJ GC HI EF GI DS FH GR JG HR FI FT JU IR GD JH DO BR DF IL IP IS IM JZ CH ME PN BP EX IG NV PK XW XZ OY UT XM NP Jq; simp only [CC, eq_self, implies_true, forall_const, EB]
  simp [hm, hn, h0, nilS]) _
end Go.Bal
