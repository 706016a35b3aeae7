/- Package chart: stages. -/
import Derived.Test.YtdbjalgfomknhaaGreatChB
import Derived.Test.YtdbjalgfomknhaaGreatSym12
set_option linter.unusedVariables false
set_option linter.unusedSimpArgs false
namespace Go.Bal
open Go Go.Sym Go.Proofs
def atM (c : Cht) (k : Int) : Int := wr (c.base + wr (c.scale * (gD c.ms k.toNat).ht))
def st0 (c : Cht) (k : Int) : Span := ⟨wr (atM c k - c.off), wr (atM c k + c.off)⟩
def QF (c : Cht) (k : Int) : Span := bif hasN c.ns k then hJ (st0 c k) (ntOf c.ns k).s else st0 c k
structure DkI where
 w : Dk
 k : Int
def dDkI : List AVal -> Heap -> Option (DkI × List (Nat × Nat) × List Nat)
 | [.bptr id _, .d k], H => match oV H id with
  | some (w, q) => some (⟨w, HM k⟩, [(100, id), (101, q)], [])
  | none => none
 | _, _ => none
def C_stg : Ctr := { ro := [100, 101], α := DkI, xs := λ a => [.bptr 100 0, .int a.k], L := λ a => dkL a.w, val := λ a => .d (FX (QF a.w.c a.k)), keep := λ a => dkK a.w, pre := λ a => [0 <= a.k /\ a.k < a.w.c.ms.length] }
def BHZ : Ann := { ann 61 [(uE, C_com.spec AUK)] with E := [100, 101] }
def BKM (a : DkI) : Prop := CL Try.prog BHZ Z3 (AH Z3) (C_stg.xs a) (AB (C_stg.L a)) (C_stg.val a) (C_stg.keep a) [] []
abbrev pP:=DkI.k
abbrev Re:=@HMul.hMul Int Int Int (@instHMul Int Int.instMul)
abbrev Bz:=QF
abbrev Di:=Span.mk
abbrev QZ a b:=XQ a (LW b a)
abbrev IB a:=AC (λ i=>QZ i a)
abbrev YJ a b (c:Int->Prop):=NB a (IB b) b c
abbrev TY a b:=YJ a b (λ i=>YI b i)
abbrev Km a:=AV (DkI.w a)
abbrev Xu a:=HC (Km a)
abbrev pO a b:=HK (Re a b)
abbrev wU a b c:=GF a (pO b c)
abbrev yC a b:=wU (HQ a) (HT a) (CF a (HV b))
abbrev Zv a b:=yC (Km a) (pP b)
abbrev Mn a:=Ak 1 (λ i=>a)
abbrev iQ a:=Mn (FI a)
abbrev Zt a b:=SW (DkI.w a) (pP b)
abbrev Tz a:=DH a a
abbrev SH:=Tz 1
abbrev LO a b:=CE (CU a) b
abbrev DQ a b:=GQ a a b
attribute [go_sem] pP Re Bz Di QZ IB YJ TY Km Xu pO wU yC Zv Mn iQ Zt Tz SH LO DQ
theorem BOO (a : DkI) : (BKM a) = (AE (DQ (pP a) (AW (Km a))) (SX (Value.agg (V1 (fI (Zz (Zz X1))))) jR) (DX (QW (Km a) (pP a)) (FR (CW (AF (KU (Zv a a) (Xu a))) (AF (GF (Zv a a) (Xu a))) (LO (iQ (Zt a a)) 1) SH (AC (λ i=>DR i (CU (iQ (Zt a a))) (EM (iQ (Zt a a)) i) (CQ (Zt a a)) (FC (LU (iQ (Zt a a)) i) (Zt a a)))) HF) (NQ (Bz (Km a) (pP a)) (comM (SL.mk (Di (KU (Zv a a) (Xu a)) (GF (Zv a a) (Xu a))) (iQ (Zt a a))))) (BD (Bz (Km a) (pP a)) (comM (SL.mk (Di (KU (Zv a a) (Xu a)) (GF (Zv a a) (Xu a))) (iQ (Zt a a))))) (Km a) (TY (Km a) (DkI.w a))) (HP (KP (Bz (Km a) (pP a)) (KU (Zv a a) (Xu a))) (BF (Bz (Km a) (pP a)) (GF (Zv a a) (Xu a))) (AM (Km a)) (AL (Km a)) (AP (Km a)) (AS (Km a)) (AT (Km a)) (TY (Km a) (DkI.w a))))) := by kernel_rfl
theorem BPL (a : DkI) (h : 0 <= a.k /\ a.k < a.w.c.ms.length) : BKM a := by
 rw [BOO]<;> delta KY BA BI FW OH PR Cs EX FI CE CU AC BX CM AQ LU BU DH DX HD LS PG ER GP GA HQ HT HC HR DS GB ED Ak IX HV SX V1 X1 BT PO AV LW pP Re Bz Di AE BG AW AG BF BE CK QU AR CN BD AF CG BC EZ Tz AO CQ BS CV CY BO HK CR DD AL CF AM AT DM DR DZ GF GG DW AS DJ FC AP EY SW DC DB HW GR JD KU RY QW EM FE DE GQ AN BY KD BL XQ JE HY JH XJ ZA JQ DQ QZ EB MC CW IB MG WB Km LO KE KC QP pO CH SI KP wU Pd HF HP MM YI SH NQ SG Xg NB YJ FR TY fI Mn Zz Xu yC Zt Zv iQ; simp only [CC, eq_self, implies_true, forall_const]
 cases hq : hasN a.w.c.ns a.k with
 | true =>
  have e : QF a.w.c a.k = hJ (st0 a.w.c a.k) (ntOf a.w.c.ns a.k).s := by unfold QF; rw [hq]; rfl
  refine ⟨h, rfl, λ _ => ⟨⟨by omega, λ j hj => ?_⟩, ?_, ?_⟩, λ h => by cases h⟩
  ·rw [IK _ _ _ hj]; exact ⟨rfl, rfl⟩
  ·rw [e]; rfl
  ·rw [e]; rfl
 | false =>
  have e : QF a.w.c a.k = st0 a.w.c a.k := by unfold QF; rw [hq]; rfl
  refine ⟨h, rfl, (λ h => by cases h), λ _ => ⟨?_, ?_⟩⟩
  ·rw [e]; rfl
  ·rw [e]; rfl
theorem BLS : AK Try.prog T7 (C_stg.spec dDkI) := XM C_stg (λ _ => BHZ) [] [] ASW (λ _ => by kernel_rfl) (λ _ => AA AYH AD) (λ a h => BPL a h) (λ _ => YR rfl rfl) _
def rowS (l : List Span) : AObj := .row 2 l.length λ i => FX (gD l i)
def C4SaO : Ctr := { ro := [100], α := MSa, xs := λ a => [.own 100 2 0 a.l.length, fvSa a.q], L := λ a => [(100, rowS a.l)], val := λ a => .bool (a.l.all Fa), keep := λ a => [(100, .live (rowS a.l))], pre := PSa }
def BGY : List AVal -> Heap -> Option (MSa × List (Nat × Nat) × List Nat)
 | [.own id _ _ _, .fn _ _ _], H => match H id with
  | .live (.row _ n g) => some (⟨default, QR n λ i => Ku (g i)⟩, [(100, id)], [])
  | _ => none
 | _, _ => none
def C4SnO : Ctr := { ro := [100], α := MSn, xs := λ a => [.own 100 2 0 a.l.length, fvSn a.q], L := λ a => [(100, rowS a.l)], val := λ a => .bool (a.l.all Fa), keep := λ a => [(100, .live (rowS a.l))], pre := PSn }
def BJR : List AVal -> Heap -> Option (MSn × List (Nat × Nat) × List Nat)
 | [.own id _ _ _, .fn _ _ _], H => match H id with
  | .live (.row _ n g) => some (⟨default, QR n λ i => Ku (g i)⟩, [(100, id)], [])
  | _ => none
 | _, _ => none
theorem BNZ : AK Try.prog n_eS (C4SaO.spec BGY) := okT C4SaO (λ (a : MSa) h => by
 have hf := BIJ a h
 refine FnT.lend (fz := [100]) (xs := [.own 100 2 0 a.l.length, fvSa a.q]) (L := [(100, rowS a.l)]) hf rfl ?_ rfl ?_ _ ?_
 ·show [AVal.d (.list 2 a.l.length (λ j => FX (gD a.l (0 + j))) false), _] = _
  simp only [Nat.zero_add]; rfl
 ·show 0 + a.l.length <= a.l.length; omega
 ·exact ⟨rfl, trivial⟩) _
theorem BLY : AK Try.prog n_eS (C4SnO.spec BJR) := okT C4SnO (λ (a : MSn) h => by
 have hf := BRH a h
 refine FnT.lend (fz := [100]) (xs := [.own 100 2 0 a.l.length, fvSn a.q]) (L := [(100, rowS a.l)]) hf rfl ?_ rfl ?_ _ ?_
 ·show [AVal.d (.list 2 a.l.length (λ j => FX (gD a.l (0 + j))) false), _] = _
  simp only [Nat.zero_add]; rfl
 ·show 0 + a.l.length <= a.l.length; omega
 ·exact ⟨rfl, trivial⟩) _
def WG (c : Cht) : List Span := QR c.ms.length λ i => QF c (i : Int)
def Hf (c : Cht) : Bool := (WG c).all Fa
def xG : List AVal -> Heap -> Option (Dk × List (Nat × Nat) × List Nat)
 | [.bptr id _], H => match oV H id with
  | some (w, q) => some (w, [(100, id), (101, q)], [])
  | none => none
 | _, _ => none
def C_all : Ctr := { ro := [100, 101], α := Dk, xs := λ _ => [.bptr 100 0], L := λ w => dkL w, val := λ w => .tup [.d (DA (WG w.c)), .bool (Hf w.c)], keep := λ w => dkK w, pre := λ w => [1 <= w.c.ms.length /\ w.c.ms.length <= 40] }
def al3n (w : Dk) : Shape := { α := One, dflt := default, T := λ _ => ⟨[(0, .bptr 100 0), (4, .d Rv), (11, .int w.c.ms.length), (12, .int 0)], dkK w⟩, inv := λ _ => True, meas := λ _ => 50 }
def al3o (w : Dk) : Shape := { α := Nat, dflt := 0, T := λ k => ⟨[(0, .bptr 100 0), (4, .own 202 2 0 k), (11, .int w.c.ms.length), (12, .int k)], dkK w ++ [(202, .live (.row 2 k λ i => FX (QF w.c (i : Int))))]⟩, inv := λ k => 1 <= k /\ k <= w.c.ms.length, meas := λ k => 40 - k, again := [(202, 6080)] }
def BHO (w : Dk) : Ann := { ann 25 [(T7, C_stg.spec dDkI), (n_eS, orS (C4SaO.spec BGY) (C4Sa.spec d4Sa))] with E := [100, 101], mt := λ id => id == 5, loops := λ id => if id = 3 then some [al3n w, al3o w] else none }
def BHM (w : Dk) : Prop := CL Try.prog (BHO w) AUQ (AH AUQ) (C_all.xs w) (AB (C_all.L w)) (C_all.val w) (C_all.keep w) [] [202]
abbrev Wz:=@Exists One
abbrev Kr:=λ (f : One -> Prop) => ∀ (x : One), f x
abbrev TT:=WG
abbrev Wo:=Hf
abbrev Pb a b:=TY (AV a) b
abbrev WS a:=AT (AV a)
abbrev WJ a:=AS (AV a)
abbrev XH a:=AP (AV a)
abbrev TZ a:=AL (AV a)
abbrev UF a:=AM (AV a)
abbrev QE a b:=Bz a (BU b)
abbrev VR a b:=QE (AV a) b
abbrev UG a b c d e:=OC a (CU b) b c d b e
abbrev XY a b:=DH (BB a) b
abbrev NP a:=XY a a
abbrev AI:=BC 0
abbrev Kh a:=And AI a
abbrev YT a b:=AE a a b
abbrev Jd a b c d:=JI a b (DH c d)
abbrev Gh a b c:=Jd a b b c
abbrev KJ a b:=Gh 1 a b
abbrev Dn a:=AW (AV a)
abbrev MY a (b:Nat->Prop) c d e (f:Int->Prop) g h:=XJ a b c BL d e f g h
abbrev KH a b c d e f:=DR a b c d (BF e f)
abbrev OU a b c d:=YY ((λ (x0 x1 : Nat) => decide (x0 < x1)) a b) c d
abbrev Ps a:=EH (AV a)
abbrev Dq a b:=BA (QE a b)
abbrev FK a:=QT a 1
abbrev VH a b:=CE a (FK b)
abbrev lA a:=BT (λ i=>ZA a i)
abbrev gR a:=lA (AV a)
abbrev eJ a:=DE (AV a)
abbrev dY a:=NF (AV a)
abbrev XV a:=DH a 140737488355328
abbrev WY a b:=XV ((@HMul.hMul Nat Nat Nat (@instHMul Nat instMulNat)) a b)
abbrev Ab a:=WY a 16
abbrev Jt a:=Ab (FK a)
abbrev Cr a:=DH (FK a) 9223372036854775807
abbrev SC a:=HL Aq a
abbrev MB a:=CM 0 a
abbrev ZF:=MB 1
abbrev SS a b c:=And a (BE 0 b c)
abbrev PC:=BC 2
abbrev TE a b:=SS a b PC
abbrev VZ:=TE SH 1
abbrev Jo a b:=TE (BC a) b
abbrev Nw a b:=Ic (AV a) b
abbrev Bv a b c d:=ZJ a b (Dj c d)
abbrev ZI a b:=Bv a b a b
abbrev IE a:=BT (λ i=>ZI a i)
abbrev UM a:=AC (λ i=>CP i a)
abbrev KI a:=AC (λ i=>EE i a)
abbrev Fe a:=LO a 0
abbrev Qn:=EJ 0
abbrev NN a:=CE a 1
abbrev Jj:=FZ 0
abbrev Ja:=XV 16
abbrev TR a:=DH 1 a
abbrev Ay:=TR 9223372036854775807
abbrev Hx a:=BX HF a
abbrev Cd:=Hx ZF
abbrev Pt a b:=SS LG a b
abbrev Is a:=Pt 0 a
abbrev Pc a:=Is (CE 0 a)
abbrev Do:=Pc 2
abbrev Jh a:=GR La 0 a
abbrev TV a:=And a LG
abbrev LZ a:=Wz (λ i=>TV a)
abbrev Ee a:=RY a 0 Aq
abbrev GV:=AC Ee
attribute [go_sem] Wz Kr TT Wo Pb WS WJ XH TZ UF QE VR UG XY NP AI Kh YT Jd Gh KJ Dn MY KH OU Ps Dq FK VH lA gR eJ dY XV WY Ab Jt Cr SC MB ZF SS PC TE VZ Jo Nw Bv ZI IE UM KI Fe Qn NN Jj Ja TR Ay Hx Cd Pt Is Pc Do Jh TV LZ Ee GV
theorem BKS (w : Dk) : (BHM w) = (IF (LZ (Kh (FR GV (AF (dY w)) AJ (AV w) (Pb w w)))) (Kr (λ i=>HX LG (IP 0 (dY w)) (AE (AQ 0 MF) (UF w) (FP (TZ w) (XH w) (WJ w) (WS w) (BM (AV w)) (λ j=>AZ j (AV w)) (BK (AV w)) (JB (AV w)) (AR (IB w) BL (PH (AV w)) (HB w) (BT (λ j=>Gs (Nw w j) w j)) (UF w) (TZ w) (XH w) (DF (WJ w) (WS w) (CA (AV w)) (KI (AV w)) (BZ (AV w)) (UM (AV w)) (λ j=>QZ j w) BL (AR (IE (AV w)) (HB w) (BT (λ j=>LA (SW w j) (Nw w j))) (Jh (EN (AV w))) Do VZ Cd Ay Ja))))) (GW (λ j=>JP (AN AI (NN j) (AF (dY w)) (AR (FL j Jj) (UF w) (TZ w) (XH w) (WJ w) (WS w) (eJ w) (RM (AV w)) (MY (DB (AV w)) (λ k=>CH k (AV w)) (IB w) (gR w) (HB w) (λ k=>YI w k) (NN j) (AC (λ k=>JZ k j (BA (VR w k)) (BA (Bz (Ps w) 0)) (VR w k) (Bz (Ps w) 0)))))) (KJ j (Dn w)) 40 j 50)) (ND AI AI Qn LG (FR (Fe (TT (AV w))) (Fe (TT (AV w))) (DI (Wo (AV w))) (AV w) (Pb w w))))) (λ i=>HX (KJ i (Dn w)) (IS i (dY w)) (AE (BW i) (UF w) (FP (TZ w) (XH w) (WJ w) (WS w) (BM (AV w)) (λ j=>AZ j (AV w)) (BK (AV w)) (JB (AV w)) (AR (IB w) BL (PH (AV w)) (HB w) (BT (λ j=>Gs (Nw w j) w j)) (UF w) (TZ w) (XH w) (DF (WJ w) (WS w) (CA (AV w)) (KI (AV w)) (BZ (AV w)) (UM (AV w)) (λ j=>QZ j w) BL (AR (IE (AV w)) (HB w) (BT (λ j=>LA (SW w j) (Nw w j))) (DG i (EN (AV w))) (Jo i i) VZ (SC ZF) (Cr i) (Jt i)))))) (GW (λ j=>DU (AN AI (VH j i) (AF (dY w)) (AR (BH j i) (UF w) (TZ w) (XH w) (WJ w) (WS w) (eJ w) (RM (AV w)) (MY (DB (AV w)) (λ k=>CH k (AV w)) (IB w) (gR w) (HB w) (λ k=>YI w k) (VH j i) (AC (λ k=>KH k j (BA (VR w k)) (OU k i (BA (VR w k)) (Dq (Ps w) i)) (VR w k) (OU k i (BI (VR w k)) (BI (QE (Ps w) i)))))))) (KJ j (Dn w)) 40 j i)) (AE (Kh (YT (LO (Ak i (λ j=>VR w j)) i) (AG (AC (λ j=>UG j (Ak i (λ k=>VR w k)) j (BA (VR w j)) (VR w j))) (CE i (CU (Ak i (λ j=>VR w j)))) (AC (λ j=>JZ j i (BA (VR w j)) (EM (Ak i (λ k=>VR w k)) j) (VR w j) (LU (Ak i (λ k=>VR w k)) j))) (EJ (CU (Ak i (λ j=>VR w j)))) LG))) (LO (TT (AV w)) i) (BY (NP i) (λ j=>UG j (TT (AV w)) j (BA (VR w (BB j))) (VR w (BB j))) (KY (Wo (AV w)) (kH (Ak i (λ j=>VR w j)) Fa)) (UF w) (TZ w) (XH w) (WJ w) (WS w) (Pb w w))))) := by kernel_rfl
theorem BRB (w : Dk) (h : 1 <= w.c.ms.length /\ w.c.ms.length <= 40) : BHM w := by
 obtain ⟨h1, h2⟩ := h
 rw [BKS]<;> delta KY Aq BA BI FW OH PR EX FI CE CU AC BX CM AQ LU BU WF DH DX IP HD LS PG JV ER GP GA HQ HT HC HR DS GB ED GW LG Ak kH IX QT SX BT PO YY AV LW Bz Wz Kr TT Wo AE BG AW EO GJ GI AG GM BF BE CK QU AR CN BD AF JJ CG BC EZ Tz YT AO CQ GT BS CV JL CY BO HK CR DD AL KA CF AM AT DM DR DZ GF GG BB DW RB AS DJ EG FC Ic AP EY FG FS EN SW DC DB CS HW FV GR FZ JD DF FK HA RY QW KB LQ FU EM EH FE ET DE CJ GQ AN BY LP FY FJ EV EJ KD DI BL MF XQ JS FL JE HY JH AI LR OK LV JG XJ BH HL JI ZA JQ OM KV JP DV JZ DG BK QZ IT EB MC KF NF LM LX OJ MR IB MG WB LO HB KE KR MO IS KC OV Dj QS QY QP TR HX DU BM BZ CA EP FQ AZ CH AJ JC SS QE OC PC YM BW JN SI FP Nw HF MB MM FF LA GO KL Jd TV ZH ZJ TE Ee XY Bv YI LZ SH Gh NP EE NW ZI BJ SG lA XV VR KJ GV IE OU SC ZF Ps CP NB KH La NN WY XH KI RM YJ FR IF UF Fe PH TY TZ VH ND JB WJ Hx WS Jh VZ Dn Pt UM Is Ab Cd Ay Dq Qn UG Cr Pc Do Kh Gs Jt Ja Jj Pb Jo gR dY MY eJ; simp only [CC, eq_self, implies_true, forall_const, DN]
 refine ⟨⟨default, trivial⟩, ⟨λ h0 => ⟨⟨rfl, by omega, by omega, by omega, by omega, by omega, by omega⟩, 1, ⟨rfl, rfl, rfl, λ i hi => ?_⟩, by omega, by omega⟩, λ h0 => absurd h0 (by omega)⟩, λ k hk => ⟨λ hlt => ⟨⟨by omega, by omega, (λ h => by cases h), by omega, by omega⟩, k + 1, ⟨rfl, (FH (by omega)).symm, rfl, λ i hi => ?_⟩, by omega, by omega⟩, λ hge => ?_⟩⟩
 ·obtain rfl : i = 0 := by omega
  exact ⟨rfl, rfl⟩
 ·by_cases h : i < k
  ·simp [h]
  ·obtain rfl : i = k := by omega
   simp
 ·obtain rfl : k = w.c.ms.length := by omega
  refine ⟨⟨λ i hi => ?_, λ i hi => ?_, by omega⟩, rng_length _ _, by omega, λ j hj => ?_, rfl⟩
  ·rw [IK _ _ _ hi]; exact ⟨rfl, rfl⟩
  ·rw [IK _ _ _ hi]; exact ⟨rfl, rfl⟩
  ·have hj : j < w.c.ms.length := by simpa [WG] using hj
   unfold WG; rw [IK _ _ _ hj]; exact ⟨rfl, rfl⟩
theorem ADV : AK Try.prog AJD (C_all.spec xG) := XM C_all BHO [] [202] BMR (λ _ => by kernel_rfl) (λ _ => AA BLS (AA (AWB BNZ BPT) AD)) (λ w h => BRB w h) (λ _ => YR rfl rfl) _
def nilS : List Span := []
def UY (c : Cht) : List Span × Int := bif AU c == 0 then bif Hf c then (WG c, 0) else ([], 6) else ([], AU c)
def C_Stages : Ctr := { α := Cht, xs := λ c => [.d (Ef c)], val := λ c => .tup [.d (DA (UY c).1), .int (UY c).2], keep := λ _ => [], pre := λ c => [c.ms.length < 4611686018427387904 /\ c.ns.length < 4611686018427387904] }
def AJR : Ann := ann 24 [(YZ, C_open.spec oQ), (AJD, C_all.spec xG)]
def ABM : Ann := ann 24 [(YZ, C_openX.spec oQ)]
def ALF (c : Cht) : Prop := CL Try.prog AJR kT (AH kT) (C_Stages.xs c) (AB []) (.tup [.d (DA (bif Hf c then WG c else [])), .int (bif Hf c then 0 else 6)]) [] [] []
abbrev ABT:=@cond (List Span)
abbrev ACX:=@List.nil Span
abbrev HO a b:=LO a (CU b)
abbrev Yc a b:=YT (Fe a) b
abbrev Qo a b c:=Yc a (AQ b c)
abbrev MS a:=BN (EH a)
abbrev WO a:=TR (EN a)
abbrev JU a b c:=LA a (Ic b c)
abbrev Po a:=RT (EH a)
abbrev Gg a b:=And (Fs a) (Cn b)
attribute [go_sem] ABT ACX HO Yc Qo MS WO JU Po Gg
theorem ATP (c : Cht) : (ALF c) = (AE (NE c (BM c) (λ i=>AZ i c) (BK c) (λ i=>BJ i c) (Gg c c) (Po c)) (CW (AM (MS c)) (AL (MS c)) (AP (MS c)) (AS (MS c)) (AT (MS c)) (WB (BM (MS c)) (λ i=>AZ i (MS c)) (BK (MS c)) (λ i=>BJ i (MS c)) LD BL (λ i=>NW (MS c) i) (λ i=>MC (YX (EH c)) i) (AR (BT (λ i=>HZ (MS c) i (Ap (EH c) i))) (AM (MS c)) (AL (MS c)) (AP (MS c)) (AS (MS c)) (AT (MS c)) (CA (MS c)) (KI (MS c)) (MY (BZ (MS c)) (λ i=>CP i (MS c)) LD (IE (MS c)) (TH (EH c)) (λ i=>JU (Ap (EH c) i) (MS c) i) (WO (MS c)) (UD (MS c)))))) (DX (not (Wo (oY (EH c)))) (Qo (ABT (Wo c) (TT c) ACX) (YY (Wo c) 0 6) 6) (AE (HO (ABT (Wo c) (TT c) ACX) (TT (oY (EH c)))) (NU (CU (ABT (Wo c) (TT c) ACX)) (ABT (Wo c) (TT c) ACX) (TT (oY (EH c)))) (JF (YY (Wo c) 0 6))))) := by kernel_rfl
def ACV (c : Cht) : Prop := CL Try.prog ABM kT (AH kT) (C_Stages.xs c) (AB []) (.tup [.d (DA nilS), .int (AU c)]) [] [] []
theorem ALX (c : Cht) : (ACV c) = (QQ (NE c (BM c) (λ i=>AZ i c) (BK c) (λ i=>BJ i c) (Gg c c) (XU (VY c))) (VY c) (YT AI (SD c (VY c))) NG) := by kernel_rfl
theorem AWZ : AK Try.prog W8 (C_Stages.spec oQ) := okT C_Stages (λ (c : Cht) h => by
 obtain ⟨hm, hn⟩ : c.ms.length < 4611686018427387904 /\ c.ns.length < 4611686018427387904 := h
 by_cases h0 : AU c = 0
 ·have e : C_Stages.val c = .tup [.d (DA (bif Hf c then WG c else [])), .int (bif Hf c then 0 else 6)] := by
   show AVal.tup [.d (DA (UY c).1), .int (UY c).2] = _
   unfold UY; rw [h0]; cases Hf c <;> rfl
  have hl := RA h0
  rw [e]
  refine Rc (A := AJR) (L := []) (keep := []) (ren := []) (fz := []) ABY (by kernel_rfl) (AA uH (AA ADV AD)) ?_
  show ALF c; rw [ATP]<;> delta KY Aq BA BI FW EX FI CE CU AC BX CM AQ LU DH DX ER GP GA HQ HT HC HR DS GB ED SX BT PO YY AV YX TT Wo ABT ACX AE BG AW EO BN GJ GI AG GM BF BE CK QU AR CN BD AF JJ CG EZ YT AO CQ GT BS CV JL CY BO CR DD AL KA CF AM AT DM DR GG RB AS DJ EG FC Ic AP EY FG FS EN CS FV DF HA RY QW KB LQ FU EM EH ET Ap BY LP FY FJ EV EJ BL XQ JS LR OK XJ OM JF KV MS JZ HJ oY BK IT MC KF LM OJ MR CW WB LO HB KR MO OV Dj QS QY TR BM BZ CA EP FQ AZ JC OC YM JN RT TI HE FF RP LA MJ GO KL Vw ZH ZJ HO Bv HZ EE NW ZI BJ TH IE JU CP LD KI NU Fe ZZ Yc Cn WO Fs UD NE Qo Po Gg MY; simp only [CC, eq_self, implies_true, forall_const, DN, B5]
  refine ⟨⟨⟨hm, hn⟩, h0⟩, by omega, λ h => ?_, λ h => ?_⟩
  ·rw [h]; exact ⟨rfl, rfl, rfl⟩
  ·rw [h]; exact ⟨rfl, λ _ _ => ⟨rfl, rfl⟩, rfl⟩
 ·have h0' : (AU c == 0) = false := by simpa using h0
  have e : C_Stages.val c = .tup [.d (DA []), .int (AU c)] := by
   show AVal.tup [.d (DA (UY c).1), .int (UY c).2] = _
   unfold UY; rw [h0']; rfl
  rw [e]
  refine Rc (A := ABM) (L := []) (keep := []) (ren := []) (fz := []) ABY (by kernel_rfl) (AA uJ AD) ?_
  show ACV c; rw [ALX]<;> delta BA BI FW EX FI CE AC BX CM AQ DX ER GP GA HQ HT HC HR DS GB ED TU NG Ow AE BG AW EO GJ GI AG GM BF BE CK AR CN BD AF JJ CG BC YT AO CQ GT BS CV JL CY BO CR DD AL KA CF AM AT DM DR RB AS DJ EG FC AP EY FG FS EN CS FV DF KB LQ FU EH ET LP FY FJ EV EJ JS AI KV HJ BK IT KF LM BM EP FQ AZ GN HE GO BJ SD VY UN ZZ Cn QQ Fs NE XU Gg; simp only [CC, eq_self, implies_true, forall_const, DN]
  simp [hm, hn, h0, nilS]) _
end Go.Bal
