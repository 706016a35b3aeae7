/- Package chart: stages. -/
import Derived.Test.YtdbjalgfomknhaaGreatChB
import Derived.Test.YtdbjalgfomknhaaGreatSym12
set_option linter.unusedVariables false
set_option linter.unusedSimpArgs false
namespace Go.Bal
open Go Go.Sym Go.Proofs
def atM (c : Cht) (k : Int) : Int := wr (c.base + wr (c.scale * (gD c.ms k.toNat).ht))
def st0 (c : Cht) (k : Int) : Span := ⟨wr (atM c k - c.off), wr (atM c k + c.off)⟩
def bT (c : Cht) (k : Int) : Span := bif hasN c.ns k then iV (st0 c k) (ntOf c.ns k).s else st0 c k
structure DkI where
 w : Dk
 k : Int
def dDkI : List AVal -> Heap -> Option (DkI × List (Nat × Nat) × List Nat)
 | [.bptr id _, .d k], H => match rH H id with
  | some (w, q) => some (⟨w, HJ k⟩, [(100, id), (101, q)], [])
  | none => none
 | _, _ => none
def C_stg : Ctr := { ro := [100, 101], α := DkI, xs := λ a => [.bptr 100 0, .int a.k], L := λ a => dkL a.w, val := λ a => .d (IK (bT a.w.c a.k)), keep := λ a => dkK a.w, pre := λ a => [0 <= a.k /\ a.k < a.w.c.ms.length] }
def BQL : Ann := { ann 61 [(yS, C_com.spec BJF)] with E := [100, 101] }
def BSM (a : DkI) : Prop := CF Try.prog BQL ADI (AH ADI) (C_stg.xs a) (AB (C_stg.L a)) (C_stg.val a) (C_stg.keep a) [] []
abbrev Xt:=DkI.k
abbrev Bu:=@HMul.hMul Int Int Int (@instHMul Int Int.instMul)
abbrev Ld:=bT
abbrev Vw:=Span.mk
abbrev SP a b c d:=VQ (BX a) a b c d
abbrev NB a b:=WP a (LI b a)
abbrev IY a:=AF (λ i=>NB i a)
abbrev LR a b:=TA a (IY b) b
abbrev Dc a:=AP (DkI.w a)
abbrev Zq a:=HK (Dc a)
abbrev iJ a b:=HI (Bu a b)
abbrev F2 a b:=GH (HV a) (iJ (IB a) (CK a (EP b)))
abbrev Zy a b:=F2 (Dc a) (Xt b)
abbrev UY a b c d e:=UR a b c d (LR d e)
abbrev Eo a:=Oo 1 (λ i=>a)
abbrev Be a b c (d:Nat->Prop) e:=AG a b c (AF d) e
abbrev NQ a b c d:=MX a b (KA b c) d
abbrev Sb a:=EU a a
abbrev RD:=Sb 1
abbrev OW a b:=BY (EL a) b
attribute [go_sem] Xt Bu Ld Vw SP NB IY LR Dc Zq iJ F2 Zy UY Eo Be NQ Sb RD OW
theorem BWR (a : DkI) : (BSM a) = (SP (Xt a) (AU (Dc a)) (QU (Value.agg (ABS (fO (Yw (Yw ABT))))) lB) (Bs (PI (Dc a) (Xt a)) (UY (And (AE (GO (Zy a a) (Zq a))) (Be (AE (GH (Zy a a) (Zq a))) (OW (Eo (LH (Dc a) (Xt a))) 1) RD (λ i=>NQ i (Eo (LH (Dc a) (Xt a))) i (LH (Dc a) (Xt a))) KS)) (BJ (Ld (Dc a) (Xt a)) (comM (SL.mk (Vw (GO (Zy a a) (Zq a)) (GH (Zy a a) (Zq a))) (Eo (LH (Dc a) (Xt a)))))) (AW (Ld (Dc a) (Xt a)) (comM (SL.mk (Vw (GO (Zy a a) (Zq a)) (GH (Zy a a) (Zq a))) (Eo (LH (Dc a) (Xt a)))))) (Dc a) (DkI.w a)) (BO (Ld (Dc a) (Xt a)) (GO (Zy a a) (Zq a))) (DT (AZ (Ld (Dc a) (Xt a)) (GH (Zy a a) (Zq a))) (AJ (Dc a)) (AL (Dc a)) (AM (Dc a)) (AN (Dc a)) (AQ (Dc a)) (LR (Dc a) (DkI.w a))))) := by kernel_rfl
theorem BZZ (a : DkI) (h : 0 <= a.k /\ a.k < a.w.c.ms.length) : BSM a := by
 rw [BWR]<;> delta JH BI BF EN MM ON Ep EB EA BY EL AF CN CO AS KA BE EU EC FY MN NT ET GW FK HV IB HK GV FU HC DV FW EY Oo LC EP QU ABS ABT EK OK AP LI Xt Bu Ld Vw AD CI AU AG AZ AX AE BM GQ Sb AW BL BD AO AR DD BA BK NC BO BJ CX HI BW BV AJ AQ NU AV FC CK AN AL LH GH HG FX FQ AM HE DK ID DR GO BX OX PI HS DX CE CW BQ OJ XE WP PX HQ Fa GT NB EO VM Dc IY MP PO iJ DT OW VQ MX EI OE PR RD KS TA SP LR My Po fO Yw Eo NQ UR UY F2 Zq Zy Be Bs; simp only [CC, eq_self, implies_true, forall_const]
 cases hq : hasN a.w.c.ns a.k with
 | true =>
  have e : bT a.w.c a.k = iV (st0 a.w.c a.k) (ntOf a.w.c.ns a.k).s := by unfold bT; rw [hq]; rfl
  refine ⟨h, rfl, λ _ => ⟨⟨by omega, λ j hj => ?_⟩, ?_, ?_⟩, λ h => by cases h⟩
  ·rw [KL _ _ _ hj]; exact ⟨rfl, rfl⟩
  ·rw [e]; rfl
  ·rw [e]; rfl
 | false =>
  have e : bT a.w.c a.k = st0 a.w.c a.k := by unfold bT; rw [hq]; rfl
  refine ⟨h, rfl, (λ h => by cases h), λ _ => ⟨?_, ?_⟩⟩
  ·rw [e]; rfl
  ·rw [e]; rfl
theorem BUK : AK Try.prog ABV (C_stg.spec dDkI) := VV C_stg (λ _ => BQL) [] [] BBW (λ _ => by kernel_rfl) (λ _ => AA BIO AC) (λ a h => BZZ a h) (λ _ => WY rfl rfl) _
def rowS (l : List Span) : AObj := .row 2 l.length λ i => IK (gD l i)
def C4SaO : Ctr := { ro := [100], α := MSa, xs := λ a => [.own 100 2 0 a.l.length, fvSa a.q], L := λ a => [(100, rowS a.l)], val := λ a => .bool (a.l.all He), keep := λ a => [(100, .live (rowS a.l))], pre := PSa }
def BTY : List AVal -> Heap -> Option (MSa × List (Nat × Nat) × List Nat)
 | [.own id _ _ _, .fn _ _ _], H => match H id with
  | .live (.row _ n g) => some (⟨default, ME n λ i => La (g i)⟩, [(100, id)], [])
  | _ => none
 | _, _ => none
def C4SnO : Ctr := { ro := [100], α := MSn, xs := λ a => [.own 100 2 0 a.l.length, fvSn a.q], L := λ a => [(100, rowS a.l)], val := λ a => .bool (a.l.all He), keep := λ a => [(100, .live (rowS a.l))], pre := PSn }
def BSA : List AVal -> Heap -> Option (MSn × List (Nat × Nat) × List Nat)
 | [.own id _ _ _, .fn _ _ _], H => match H id with
  | .live (.row _ n g) => some (⟨default, ME n λ i => La (g i)⟩, [(100, id)], [])
  | _ => none
 | _, _ => none
theorem BVE : AK Try.prog n_eS (C4SaO.spec BTY) := okT C4SaO (λ (a : MSa) h => by
 have hf := BQQ a h
 refine FnT.lend (fz := [100]) (xs := [.own 100 2 0 a.l.length, fvSa a.q]) (L := [(100, rowS a.l)]) hf rfl ?_ rfl ?_ _ ?_
 ·show [AVal.d (.list 2 a.l.length (λ j => IK (gD a.l (0 + j))) false), _] = _
  simp only [Nat.zero_add]; rfl
 ·show 0 + a.l.length <= a.l.length; omega
 ·exact ⟨rfl, trivial⟩) _
theorem BYM : AK Try.prog n_eS (C4SnO.spec BSA) := okT C4SnO (λ (a : MSn) h => by
 have hf := CAJ a h
 refine FnT.lend (fz := [100]) (xs := [.own 100 2 0 a.l.length, fvSn a.q]) (L := [(100, rowS a.l)]) hf rfl ?_ rfl ?_ _ ?_
 ·show [AVal.d (.list 2 a.l.length (λ j => IK (gD a.l (0 + j))) false), _] = _
  simp only [Nat.zero_add]; rfl
 ·show 0 + a.l.length <= a.l.length; omega
 ·exact ⟨rfl, trivial⟩) _
def Et (c : Cht) : List Span := ME c.ms.length λ i => bT c (i : Int)
def Hq (c : Cht) : Bool := (Et c).all He
def T1 : List AVal -> Heap -> Option (Dk × List (Nat × Nat) × List Nat)
 | [.bptr id _], H => match rH H id with
  | some (w, q) => some (w, [(100, id), (101, q)], [])
  | none => none
 | _, _ => none
def C_all : Ctr := { ro := [100, 101], α := Dk, xs := λ _ => [.bptr 100 0], L := λ w => dkL w, val := λ w => .tup [.d (DC (Et w.c)), .bool (Hq w.c)], keep := λ w => dkK w, pre := λ w => [1 <= w.c.ms.length /\ w.c.ms.length <= 40] }
def al3n (w : Dk) : Shape := { α := One, dflt := default, T := λ _ => ⟨[(0, .bptr 100 0), (4, .d Ou), (11, .int w.c.ms.length), (12, .int 0)], dkK w⟩, inv := λ _ => True, meas := λ _ => 50 }
def al3o (w : Dk) : Shape := { α := Nat, dflt := 0, T := λ k => ⟨[(0, .bptr 100 0), (4, .own 202 2 0 k), (11, .int w.c.ms.length), (12, .int k)], dkK w ++ [(202, .live (.row 2 k λ i => IK (bT w.c (i : Int))))]⟩, inv := λ k => 1 <= k /\ k <= w.c.ms.length, meas := λ k => 40 - k, again := [(202, 6080)] }
def BUF (w : Dk) : Ann := { ann 25 [(ABV, C_stg.spec dDkI), (n_eS, orS (C4SaO.spec BTY) (C4Sa.spec d4Sa))] with E := [100, 101], mt := λ id => id == 5, loops := λ id => if id = 3 then some [al3n w, al3o w] else none }
def BTN (w : Dk) : Prop := CF Try.prog (BUF w) BLF (AH BLF) (C_all.xs w) (AB (C_all.L w)) (C_all.val w) (C_all.keep w) [] [202]
abbrev TE:=@Exists One
abbrev Yb:=λ (f : One -> Prop) => ∀ (x : One), f x
abbrev Aq:=Et
abbrev cY:=Hq
abbrev Ho:=@HMul.hMul Nat Nat Nat (@instHMul Nat instMulNat)
abbrev ZB a b (c:Nat->Prop):=GG (TE (λ i=>a)) (Yb (λ i=>b)) c
abbrev AT:=BM 0
abbrev ZH a b c:=CE AT a b c
abbrev Qz a b:=LR (AP a) b
abbrev TR a:=AQ (AP a)
abbrev TO a:=AN (AP a)
abbrev SS a:=AM (AP a)
abbrev QL a:=AL (AP a)
abbrev QG a:=AJ (AP a)
abbrev WN a b:=Ld a (BE b)
abbrev XM a b:=WN (AP a) b
abbrev Rz a b:=KA (Aq a) b
abbrev TP a b:=EU (CM a) b
abbrev OF a:=TP a a
abbrev YO a b:=AD a a b
abbrev WL a b c d e:=GM AT a b c d e
abbrev Lu a b c d:=IH a b (EU c d)
abbrev KR a b:=Lu 1 a a b
abbrev Nz a:=AU (AP a)
abbrev JY a (b:Nat->Prop) c d e (f:Int->Prop) g h:=VM a b c BQ d e f g h
abbrev KX a b c d:=Ai ((λ (x0 x1 : Nat) => decide (x0 < x1)) a b) c d
abbrev Ji a:=CU (AP a)
abbrev JR a:=RX a 1
abbrev SJ a b:=BY a (JR b)
abbrev jD a:=EK (λ i=>Fa a i)
abbrev fL a:=jD (AP a)
abbrev fS a:=DX (AP a)
abbrev UO a:=EU a 140737488355328
abbrev Ip a b:=Ho (JR a) b
abbrev Dh a:=Ip a 16
abbrev Pw a b:=EU (JR a) b
abbrev VA a:=Pw a 9223372036854775807
abbrev WT a:=HO Hi a
abbrev OQ a:=CO 0 a
abbrev UP:=WT (OQ 1)
abbrev Sf a b c:=And a (AX 0 b c)
abbrev WR a b c:=Sf a b (BM c)
abbrev VY a b:=WR a b 2
abbrev Np:=VY RD 1
abbrev Dj a b:=VY (BM a) b
abbrev PF a b:=And (BX a) b
abbrev SX a b c:=PF a (DK b c)
abbrev HF a b:=SX a a b
abbrev ZW a b c d e f g:=XT a b c a d e (Kq f g)
abbrev ZQ a b:=EN (Db a b)
abbrev LN a b:=ZW a b (ZQ a b) b (Hp a b) a b
abbrev SC a:=EK (λ i=>LN a i)
abbrev ZY a b c d:=YJ a b (Bw c d)
abbrev XZ a b:=ZY a b a b
abbrev HP a:=EK (λ i=>XZ a i)
abbrev IA a:=AF (λ i=>GD i a)
abbrev Sa a b c d:=AG a a b c d
abbrev Mr a:=OW a 0
abbrev MI a:=BY a 1
abbrev Kh a:=HH a (DO 0)
abbrev KT a:=EU 1 a
abbrev VB:=KT 9223372036854775807
abbrev VL:=CN KS (OQ 1)
abbrev Ec a:=Sf FL 0 a
abbrev Jb a:=Ec (BY 0 a)
abbrev WM:=Jb 2
abbrev Jf a:=AS a (XB 0)
abbrev VE a b:=BC AT a b
abbrev YF a:=OX a 0 Hi
abbrev FG:=AF YF
attribute [go_sem] TE Yb Aq cY Ho ZB AT ZH Qz TR TO SS QL QG WN XM Rz TP OF YO WL Lu KR Nz JY KX Ji JR SJ jD fL fS UO Ip Dh Pw VA WT OQ UP Sf WR VY Np Dj PF SX HF ZW ZQ LN SC ZY XZ HP IA Sa Mr MI Kh KT VB VL Ec Jb WM Jf VE YF FG
theorem BVS (w : Dk) : (BTN w) = (ZB (VE (My FG (Yr (AP w)) DJ (QG w) (QL w) (SS w) (AP w) (Qz w w)) FL) (IR FL 0 (KF (AP w)) (AD (Jf 0) (QG w) (EX (QL w) (SS w) (TO w) (TR w) (BP (AP w)) (λ i=>BH i (AP w)) (BN (AP w)) (FN (AP w)) (AR (IY w) BQ (NJ (AP w)) (GT w) (FM (AP w)) (QG w) (QL w) (SS w) (CG (TO w) (TR w) (FI (AP w)) (IA (AP w)) (FJ (AP w)) (JS (AP w)) (λ i=>NB i w) BQ (AR (HP (AP w)) (GT w) (SC (AP w)) (HF 0 (EH (AP w))) WM Np VL VB (UO 16)))))) (HA (λ i=>ZH (AD (MI i) (Yr (AP w)) (AR (Kh i) (QG w) (QL w) (SS w) (TO w) (TR w) (fS w) (QJ (AP w)) (JY (DR (AP w)) (λ j=>EI j (AP w)) (IY w) (fL w) (GT w) (λ j=>OE (AP w) j) (MI i) (AF (λ j=>BA j i (BJ (XM w j) (Ld (Ji w) 0)) (AW (XM w j) (Ld (Ji w) 0))))))) (KR i (Nz w)) (JB 40 i 50))) (GP AT AT (EQ 0) FL (Sa (Mr (Aq (AP w))) (CS (cY (AP w))) (QG w) (AG (QL w) (SS w) (TO w) (TR w) (Qz w w))))) (λ i=>JF (KR i (Nz w)) i (KF (AP w)) (AD (FS i) (QG w) (EX (QL w) (SS w) (TO w) (TR w) (BP (AP w)) (λ j=>BH j (AP w)) (BN (AP w)) (FN (AP w)) (AR (IY w) BQ (NJ (AP w)) (GT w) (FM (AP w)) (QG w) (QL w) (SS w) (CG (TO w) (TR w) (FI (AP w)) (IA (AP w)) (FJ (AP w)) (JS (AP w)) (λ j=>NB j w) BQ (AR (HP (AP w)) (GT w) (SC (AP w)) (HF (BE i) (EH (AP w))) (Dj i i) Np UP (VA i) (UO (Dh i))))))) (HA (λ j=>WL (AD (SJ j i) (Yr (AP w)) (AR (BR j i) (QG w) (QL w) (SS w) (TO w) (TR w) (fS w) (QJ (AP w)) (JY (DR (AP w)) (λ k=>EI k (AP w)) (IY w) (fL w) (GT w) (λ k=>OE (AP w) k) (SJ j i) (AF (λ k=>BA k j (BO (XM w k) (KX k i (BI (XM w k)) (BI (WN (Ji w) i)))) (AZ (XM w k) (KX k i (BF (XM w k)) (BF (WN (Ji w) i))))))))) (KR j (Nz w)) 40 j i)) (ZH (YO (OW (Oo i (λ j=>XM w j)) i) (AG (AF (λ j=>NQ j (Oo i (λ k=>XM w k)) j (XM w j))) (BY i (EL (Oo i (λ j=>XM w j)))) (AF (λ j=>BA j i (BJ (XM w j) (KA (Oo i (λ k=>XM w k)) j)) (AW (XM w j) (KA (Oo i (λ k=>XM w k)) j)))) (EQ (EL (Oo i (λ j=>XM w j)))) FL)) (OW (Aq (AP w)) i) (CW (OF i) (λ j=>MX j (Aq (AP w)) (Rz (AP w) j) (XM w (CM j))) (JH (cY (AP w)) (kT (Oo i (λ j=>XM w j)) He)) (QG w) (QL w) (SS w) (TO w) (TR w) (Qz w w))))) := by kernel_rfl
theorem BZY (w : Dk) (h : 1 <= w.c.ms.length /\ w.c.ms.length <= 40) : BTN w := by
 obtain ⟨h1, h2⟩ := h
 rw [BVS]<;> delta JH Hi BI BF EN MM ON EB EA BY EL AF CN CO AS KA BE XB EU EC JL FY MN NT LS ET GW FK HV IB HK GV FU HC DV FW EY LD HA FL Oo kT LC RX QU EK OK Ai AP LI Ld TE Yb Aq cY Ho AD CI AU FT GN AG GK AZ AX AE FA BM GQ Sb YO Sa AW JP BL BD AO AR DD BA BK II NC JQ BO BJ CX HI BW BV AJ AQ NU JD AV EH FC NH CK AN AL LH GH JE JO HG FX FQ FO MR AM IV FD Db HE DK ID DR CM ES BX CG DO OX BC PI IW HS DX JR HH JA CE CW EZ BQ Kq OJ CS XE EV WP EQ CU PX FH HQ DZ KF EW AT DU Rz JB ED Fa HO BR GT FZ GI BN NB GA GC EO HD VM PF LG IY FS IH SX PQ MP Ff Bw IS ND MC UD NM Hp EX PO OW DJ Sf QV HF BP MQ FJ FI MX EI OE BH BG IP WR PR VZ IR KT OQ YM YJ jD LU HY GG YF GM ZQ Lu ZY VY WN FG XZ CQ GD NE UO RD KX HP YB KS QL KR TA XT JF GP TP QG MI FN SS SJ IA LR ZW My OF QJ FM XM NJ TO LN JS TR WT Mr Ji Np NQ Ec Pw UP SC Ip VB VA VL Nz Jb WM VE JY Dj ZB Dh Jf ZH Qz fL Yr fS WL Kh; simp only [CC, eq_self, implies_true, forall_const, CL]
 refine ⟨⟨default, trivial⟩, ⟨λ h0 => ⟨⟨rfl, by omega, by omega, by omega, by omega, by omega, by omega⟩, 1, ⟨rfl, rfl, rfl, λ i hi => ?_⟩, by omega, by omega⟩, λ h0 => absurd h0 (by omega)⟩, λ k hk => ⟨λ hlt => ⟨⟨by omega, by omega, (λ h => by cases h), by omega, by omega⟩, k + 1, ⟨rfl, (HL (by omega)).symm, rfl, λ i hi => ?_⟩, by omega, by omega⟩, λ hge => ?_⟩⟩
 ·obtain rfl : i = 0 := by omega
  exact ⟨rfl, rfl⟩
 ·by_cases h : i < k
  ·simp [h]
  ·obtain rfl : i = k := by omega
   simp
 ·obtain rfl : k = w.c.ms.length := by omega
  refine ⟨⟨λ i hi => ?_, λ i hi => ?_, by omega⟩, rng_length _ _, by omega, λ j hj => ?_, rfl⟩
  ·rw [KL _ _ _ hi]; exact ⟨rfl, rfl⟩
  ·rw [KL _ _ _ hi]; exact ⟨rfl, rfl⟩
  ·have hj : j < w.c.ms.length := by simpa [Et] using hj
   unfold Et; rw [KL _ _ _ hj]; exact ⟨rfl, rfl⟩
theorem AKP : AK Try.prog AQI (C_all.spec T1) := VV C_all BUF [] [202] BYN (λ _ => by kernel_rfl) (λ _ => AA BUK (AA (BFT BVE CAS) AC)) (λ w h => BZY w h) (λ _ => WY rfl rfl) _
def nilS : List Span := []
def TB (c : Cht) : List Span × Int := bif AI c == 0 then bif Hq c then (Et c, 0) else ([], 6) else ([], AI c)
def C_Stages : Ctr := { α := Cht, xs := λ c => [.d (Ak c)], val := λ c => .tup [.d (DC (TB c).1), .int (TB c).2], keep := λ _ => [], pre := λ c => [c.ms.length < 4611686018427387904 /\ c.ns.length < 4611686018427387904] }
def ARM : Ann := ann 24 [(UF, C_open.spec aM), (AQI, C_all.spec T1)]
def AJE : Ann := ann 24 [(UF, C_openX.spec aM)]
def AQR (c : Cht) : Prop := CF Try.prog ARM jX (AH jX) (C_Stages.xs c) (AB []) (.tup [.d (DC (bif Hq c then Et c else [])), .int (bif Hq c then 0 else 6)]) [] [] []
abbrev AST:=@cond (List Span)
abbrev ARG:=@List.nil Span
abbrev Gm a b c d:=EC a (YO b c) d
abbrev Eh a b c d:=Gm a (Mr b) c d
abbrev HU a (b:Nat->Prop) c:=AD a (AF b) c
abbrev AKM a b c:=BS (MR a b c)
abbrev KY a:=AKM a a a
abbrev KU a b:=OW a (EL b)
abbrev Gb a:=AS a 6
abbrev WW a:=KT (EH a)
abbrev Rv a:=LB (CU a)
abbrev Hb a b:=And (RP a) (PV b)
attribute [go_sem] AST ARG Gm Eh HU AKM KY KU Gb WW Rv Hb
theorem BCQ (c : Cht) : (AQR c) = (TV (AJ c) (AL c) (XV c (Hb c c) (Rv c)) (And (AJ (KY c)) (AG (AL (KY c)) (AM (KY c)) (AN (KY c)) (AQ (KY c)) (MP (BP (KY c)) (λ i=>BH i (KY c)) (BN (KY c)) (λ i=>BG i (KY c)) ML BQ (λ i=>LU (KY c) i) (NK (CU c)) (AR (FM (KY c)) (AJ (KY c)) (AL (KY c)) (AM (KY c)) (AN (KY c)) (AQ (KY c)) (FI (KY c)) (IA (KY c)) (JY (FJ (KY c)) (λ i=>CQ i (KY c)) ML (HP (KY c)) (NK (CU c)) (λ i=>LN (KY c) i) (WW (KY c)) (SO (KY c))))))) (Eh (not (cY (CU (KY c)))) (AST (cY c) (Aq c) ARG) (Gb (Ai (cY c) 0 6)) (HU (KU (AST (cY c) (Aq c) ARG) (Aq (CU (KY c)))) (λ i=>NQ i (AST (cY c) (Aq c) ARG) i (Rz (CU (KY c)) i)) (IM (Ai (cY c) 0 6))))) := by kernel_rfl
def AJN (c : Cht) : Prop := CF Try.prog AJE jX (AH jX) (C_Stages.xs c) (AB []) (.tup [.d (DC nilS), .int (AI c)]) [] [] []
theorem ATZ (c : Cht) : (AJN c) = (SA c c (Hb c c) (UV (SQ c)) (Gm (XN c) AT (PY c (SQ c)) KG)) := by kernel_rfl
theorem BIC : AK Try.prog AGR (C_Stages.spec aM) := okT C_Stages (λ (c : Cht) h => by
 obtain ⟨hm, hn⟩ : c.ms.length < 4611686018427387904 /\ c.ns.length < 4611686018427387904 := h
 by_cases h0 : AI c = 0
 ·have e : C_Stages.val c = .tup [.d (DC (bif Hq c then Et c else [])), .int (bif Hq c then 0 else 6)] := by
   show AVal.tup [.d (DC (TB c).1), .int (TB c).2] = _
   unfold TB; rw [h0]; cases Hq c <;> rfl
  have hl := OR h0
  rw [e]
  refine Pn (A := ARM) (L := []) (keep := []) (ren := []) (fz := []) AKL (by kernel_rfl) (AA pG (AA AKP AC)) ?_
  show AQR c; rw [BCQ]<;> delta JH Hi BI BF EN EB EA BY EL AF CN CO AS KA EU EC ET GW FK HV IB HK GV FU HC DV FW EY LD QU EK OK Ai AP Le Aq cY AST ARG AD CI AU FT BS GN AG GK AZ AX AE FA GQ YO AW JP BL BD AO AR DD BA BK II NC JQ BO BJ CX BW BV AJ AQ NU JD AV EH NH CK AN AL LH JE JO FX FQ FO MR AM IV FD Db AKM ES CG OX PI IW JA CW EZ BQ Kq OJ XE EV WP EQ CU KY FH EW DU Rz HR GT FZ GI BN GA GC HD VM IM PQ MP Ff Bw IS ND MC NM Hp LB OW BP FJ FI MX BH BG LM IP VZ Ny KT YM YJ HB LU HY ZQ ZY NK XZ CQ GD NE KU ML HP YB XT PV IA ZW FM HU LN Gm Qc Mr RP NQ WW SO JY Eh YW TV XV Gb Rv Hb; simp only [CC, eq_self, implies_true, forall_const, CL, rZ]
  refine ⟨⟨⟨hm, hn⟩, h0⟩, by omega, λ h => ?_, λ h => ?_⟩
  ·rw [h]; exact ⟨rfl, rfl, rfl⟩
  ·rw [h]; exact ⟨rfl, λ _ _ => ⟨rfl, rfl⟩, rfl⟩
 ·have h0' : (AI c == 0) = false := by simpa using h0
  have e : C_Stages.val c = .tup [.d (DC []), .int (AI c)] := by
   show AVal.tup [.d (DC (TB c).1), .int (TB c).2] = _
   unfold TB; rw [h0']; rfl
  rw [e]
  refine Pn (A := AJE) (L := []) (keep := []) (ren := []) (fz := []) AKL (by kernel_rfl) (AA jS AC) ?_
  show AJN c; rw [ATZ]<;> delta BI BF EN EB EA BY AF CN CO AS EC ET GW FK HV IB HK GV FU HC DV FW EY LD SI KG Lc AD CI AU FT GN AG GK AZ AX AE FA BM YO AW JP BL BD AO AR DD BA BK II JQ BO BJ CX BW BV AJ AQ JD AV EH NH CK AN AL JE JO FO MR AM IV FD ES CG IW JA EZ EV EQ CU FH EW AT DU HR FZ GI BN GA GC HD IS BP BH BG LM HB IN SQ PY MH PV Gm RP Cc XN Ft YW UV XV SA Hb; simp only [CC, eq_self, implies_true, forall_const, CL]
  simp [hm, hn, h0, nilS]) _
end Go.Bal
