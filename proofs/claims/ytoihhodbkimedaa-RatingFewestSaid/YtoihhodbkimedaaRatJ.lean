/- Package rating: Flow, Reach. -/
import Derived.Test.YtoihhodbkimedaaRatI
import Derived.Test.YtoihhodbkimedaaRT2
set_option linter.unusedVariables false
set_option linter.unusedSimpArgs false
namespace Go.Bal
open Go Go.Sym Go.Proofs
structure GBt where
 g : List Gau
 b : List Int
 t : Int
def dGBt : List AVal -> Heap -> Option (GBt × List (Nat × Nat) × List Nat)
 | [x, y, .d t], H => match tL x H, AIY y H with
  | some (l, f), some (m, e) => some (⟨l, m, JD t⟩, [], f ++ e)
  | _, _ => none
 | _, _ => none
def xGBt (a : GBt) : List AVal := [.d (DX a.g), .d (DC a.b), .int a.t]
def gbt (a : GBt) : GB := ⟨a.g, a.b⟩
def inT (a : GBt) : Bool := Cb a.t 0 2000
def preT (a : GBt) : Prop := a.g.length < 4611686018427387904 /\ a.b.length < 4611686018427387904
def C_stg : Ctr := { α := GBt, xs := xGBt, L := λ _ => [], val := λ _ => .tup [.bptr 0 0, .int 0], keep := λ a => [(0, .live (bkB (PE (gbt a)) 1)), (1, .live (bkM (PE (gbt a))))], pre := λ a => [preT a /\ DQ (gbt a) = 0 /\ inT a = true] }
def C_stgA : Ctr := { α := GBt, xs := xGBt, L := λ _ => [], val := λ _ => .tup [.bptr 0 0, .int 4], keep := λ a => [(0, .live (bkB (PE (gbt a)) 1)), (1, .live (bkM (PE (gbt a))))], pre := λ a => [preT a /\ DQ (gbt a) = 0 /\ inT a = false] }
def C_stgX : Ctr := { α := GBt, xs := xGBt, L := λ _ => [], val := λ a => .tup [.d (.v (.pointer none)), .int (DQ (gbt a))], keep := λ _ => [], pre := λ a => [preT a /\ DQ (gbt a) ≠ 0] }
def BJD : Ann := ann 25 [(Sb, C_open.spec dGB), (n_in, s_in)]
def BRA : Ann := ann 25 [(Sb, C_openX.spec dGB), (n_in, s_in)]
def CAW (a : GBt) : Prop := CH Try.prog BJD Xs (AI Xs) (xGBt a) (AD []) (C_stg.val a) (C_stg.keep a) [(0, 2032), (1, 2033)] []
abbrev Sa:=GBt.g
abbrev bP:=GBt.b
abbrev Lm:=GB.mk
abbrev UM:=GBt.t
abbrev AJL a b:=DJ (Lm a b)
abbrev ZC a:=QS (bP a) (bP a)
abbrev UO a:=AU (Sa a)
abbrev ES a:=AJL (UO a) (ZC a)
abbrev JO a:=DJ (gbt a)
abbrev QQ a b:=UG a (NV b)
abbrev Xu a:=RR (JO a)
abbrev FH a b:=AO a (YC b)
abbrev Pd a b:=FH (YC a) b
abbrev Gv a b:=HG (MJ a) b
abbrev JV a b c d e f g:=DS a b (CO c d) (CE c d) e f g
abbrev SM a b:=Cs (Lm a b)
attribute [go_sem] Sa bP Lm UM AJL ZC UO ES JO QQ Xu FH Pd Gv JV SM
theorem CDE (a : GBt) : (CAW a) = (BC (JV (AW (UO a) (Sa a)) (BE (UO a) (Sa a)) (ZC a) (bP a) (FW (UO a)) (KM (ZC a)) (CD (SM (UO a) (ZC a)))) (Gv 0 (not (NE (UM a) 2000))) (MW (Pd 0 4) (EY (Xu a) (ES a)) (EV (Xu a) (ES a)) (QQ (JO a) (ES a)) (IQ (JO a) (ES a)) WJ (HN (JO a) (ES a)) (λ i=>BS (JO a) i (ES a) (λ j=>BT j (JO a) i (BV (JO a) i j (ES a)) (BX (JO a) i j (ES a)) (BU (JO a) i j (ES a)) (BF (JO a) i j) (BF (ES a) i j)))) (MW BA (EY (Xu a) (ES a)) (EV (Xu a) (ES a)) (QQ (JO a) (ES a)) (IQ (JO a) (ES a)) WJ (HN (JO a) (ES a)) (λ i=>BS (JO a) i (ES a) (λ j=>BT j (JO a) i (BV (JO a) i j (ES a)) (BX (JO a) i j (ES a)) (BU (JO a) i j (ES a)) (BF (JO a) i j) (BF (ES a) i j))))) := by kernel_rfl
def BRC (a : GBt) : Prop := CH Try.prog BJD Xs (AI Xs) (xGBt a) (AD []) (C_stgA.val a) (C_stgA.keep a) [(0, 2032), (1, 2033)] []
theorem BVD (a : GBt) : (BRC a) = (BC (JV (AW (UO a) (Sa a)) (BE (UO a) (Sa a)) (ZC a) (bP a) (FW (UO a)) (KM (ZC a)) (CD (SM (UO a) (ZC a)))) (Gv 0 (not (NE (UM a) 2000))) (MW (UQ 4) (EY (Xu a) (ES a)) (EV (Xu a) (ES a)) (QQ (JO a) (ES a)) (IQ (JO a) (ES a)) WJ (HN (JO a) (ES a)) (λ i=>BS (JO a) i (ES a) (λ j=>BT j (JO a) i (BV (JO a) i j (ES a)) (BX (JO a) i j (ES a)) (BU (JO a) i j (ES a)) (BF (JO a) i j) (BF (ES a) i j)))) (MW (FH (YC 4) 0) (EY (Xu a) (ES a)) (EV (Xu a) (ES a)) (QQ (JO a) (ES a)) (IQ (JO a) (ES a)) WJ (HN (JO a) (ES a)) (λ i=>BS (JO a) i (ES a) (λ j=>BT j (JO a) i (BV (JO a) i j (ES a)) (BX (JO a) i j (ES a)) (BU (JO a) i j (ES a)) (BF (JO a) i j) (BF (ES a) i j))))) := by kernel_rfl
def BQI (a : GBt) : Prop := CH Try.prog BRA Xs (AI Xs) (xGBt a) (AD []) (C_stgX.val a) [] [] []
abbrev eU a:=Cs (gbt a)
attribute [go_sem] eU
theorem BWB (a : GBt) : (BQI a) = (BC (JV (AW (UO a) (Sa a)) (BE (UO a) (Sa a)) (ZC a) (bP a) (FW (UO a)) (KM (ZC a)) (Bm (SM (UO a) (ZC a)))) (Gv (SM (UO a) (ZC a)) (not (NE (UM a) 2000))) (EB (ZD (AMQ ZE)) (eU a) 4) (EB (ZD (AMQ ZE)) (eU a) (SM (UO a) (ZC a)))) := by kernel_rfl
theorem CCF : AL Try.prog bA (C_stg.spec dGBt) := Ih C_stg (λ _ => BJD) [(0, 2032), (1, 2033)] [] ACH (λ _ => by kernel_rfl) (λ _ => AB AAE (AB qF AF)) (λ (a : GBt) h => by
 show CAW a; rw [CDE]<;> delta KY hd5 Dc GH HK FK KZ KR LU MC FA AO AT CX AG CG CM EM PQ YC TU DM GP RR RQ ZE AR Bw GE MO DJ Cs Sa bP Lm UM KK AE KC AJ AP NV AU AK JQ ZD QS AX AJL Ib AQ AH BH CY BN CL CZ FT GI BB Ek JO HI CQ EP DF FC NT UO DG EN AW BF DE DN EO Kp ZI DS DY Lb CD Ls EU FE ZC TC DV HP FG Jo CE CO UQ HG DO MN Lj FB FH BE BA BC BS JC ES BT UG EV BU BX BV YT EY OW RB FW NE SM MW IQ HN KM MJ QQ WJ JV Xu Pd Gv; simp only [CC, eq_self, implies_true, forall_const, show GB.mk a.g a.b = gbt a from rfl]
 obtain ⟨⟨h1, h2⟩, h3, h4⟩ : preT a /\ DQ (gbt a) = 0 /\ inT a = true := h
 unfold inT at h4
 refine ⟨⟨h1, h2, h3⟩, λ h => ?_⟩
 rw [show (!Cb a.t 0 2000) = false by rw [h4]; rfl] at h; cases h) (λ _ => Jf rfl rfl) _
theorem BVE : AL Try.prog bA (C_stgA.spec dGBt) := Ih C_stgA (λ _ => BJD) [(0, 2032), (1, 2033)] [] ACH (λ _ => by kernel_rfl) (λ _ => AB AAE (AB qF AF)) (λ (a : GBt) h => by
 show BRC a; rw [BVD]<;> delta KY hd5 Dc GH HK FK KZ KR LU MC FA AO AT CX AG CG CM EM PQ YC TU DM GP RR RQ ZE AR Bw GE MO DJ Cs Sa bP Lm UM KK AE KC AJ AP NV AU AK JQ ZD QS AX AJL Ib AQ AH BH CY BN CL CZ FT GI BB Ek JO HI CQ EP DF FC NT UO DG EN AW BF DE DN EO Kp ZI DS DY Lb CD Ls EU FE ZC TC DV HP FG Jo CE CO UQ HG DO MN Lj FB FH BE BC BS JC ES BT UG EV BU BX BV YT EY OW RB FW NE SM MW IQ HN KM MJ QQ WJ JV Xu Gv; simp only [CC, eq_self, implies_true, forall_const, show GB.mk a.g a.b = gbt a from rfl]
 obtain ⟨⟨h1, h2⟩, h3, h4⟩ : preT a /\ DQ (gbt a) = 0 /\ inT a = false := h
 unfold inT at h4
 refine ⟨⟨h1, h2, h3⟩, λ h => ?_⟩
 rw [show (!Cb a.t 0 2000) = true by rw [h4]; rfl] at h; cases h) (λ _ => Jf rfl rfl) _
theorem BXE : AL Try.prog bA (C_stgX.spec dGBt) := Ih C_stgX (λ _ => BRA) [] [] ACH (λ _ => by kernel_rfl) (λ _ => AB Y1 (AB qF AF)) (λ (a : GBt) h => by
 show BQI a; rw [BWB]<;> delta hd5 Dc GH HK FK FA AO AT CX AG CG CM EM PQ TU DM GP ZE AMQ Cs Sa bP Lm UM KK AE KC AJ AP AU ZD QS AX BH CY BN CL CZ FT GI BB HI CQ DF FC UO DG EN AW DE DN EO DS DY EU FE ZC DV HP FG CE CO HG MN FB BE BC JC EB FW NE SM KM MJ Bm JV Gv eU; simp only [CC, eq_self, implies_true, forall_const]
 obtain ⟨⟨h1, h2⟩, h3⟩ : preT a /\ DQ (gbt a) ≠ 0 := h
 refine ⟨⟨h1, h2, h3⟩, λ h => ?_, λ _ => rfl⟩
 have h3 : DQ (GB.mk a.g a.b) ≠ 0 := h3
 rw [show (DQ (GB.mk a.g a.b) == 0) = false by simpa using h3] at h; cases h) (λ _ => Jf rfl rfl) _
def bkT (a : GBt) : BkT := ⟨PE (gbt a), a.t⟩
def Lp (a : GBt) : Int := bif DQ (gbt a) == 0 then (bif inT a then (bif decide ((lB (bkT a)).length = 0) then 6 else 0) else 4) else DQ (gbt a)
def Ez (a : GBt) : Bnd := bif Lp a == 0 then bndM (lB (bkT a)) a.t else default
def C_Flow : Ctr := { α := GBt, xs := xGBt, L := λ _ => [], val := λ a => .tup [.d (eBnd (Ez a)), .int (Lp a)], keep := λ _ => [], pre := λ a => [preT a /\ True] }
def BGP : Ann := ann 33 [(bA, C_stg.spec dGBt), (Xo, C_bnd.spec dBkt)]
def BGV : Ann := ann 33 [(bA, C_stgA.spec dGBt), (Xo, C_bnd.spec dBkt)]
def BJY : Ann := { ann 33 [(bA, C_stgX.spec dGBt), (Xo, C_bnd.spec dBkt)] with cut := λ id => if id = 4 then some [] else none }
def BIQ (a : GBt) : Prop := CH Try.prog BGP J6 (AI J6) (xGBt a) (AD []) (C_Flow.val a) [] [] []
abbrev Zv:=Ez
abbrev uA a b c:=bndM (xF a b) c
abbrev rH a b c d:=Wy a (NV b) b c d
abbrev hP a b:=rH (WI a) b b b
abbrev ABS a:=hP a a
abbrev kM a:=GBt.mk (UO a) (ZC a) (UM a)
abbrev QZ a:=JO (kM a)
abbrev ZV a:=ABS (QZ a)
abbrev Nd a b:=BB a (NV b)
abbrev Kc a b c:=And a (CM b c)
abbrev Ky a b c:=Kc a (CX b) c
attribute [go_sem] Zv uA rH hP ABS kM QZ ZV Nd Kc Ky
theorem BQE (a : GBt) : (BIQ a) = (HM (BI (AW (UO a) (Sa a)) (BE (UO a) (Sa a)) (CO (ZC a) (bP a)) (CE (ZC a) (bP a)) (AK (UM a)) (Ky (FW (UO a)) (ZC a) 4611686018427387904) (CD (eU (kM a))) (LW (inT (kM a)))) (BI (AK (UM a)) (EY (WI (QZ a)) (QZ a)) (EV (WI (QZ a)) (QZ a)) (Nd (Cp (QZ a)) (QZ a)) (MA (Cp (QZ a)) (QZ a)) DO WJ (MH (HL (QZ a)) (AR (λ i=>BS (ZV a) i (QZ a) (λ j=>BT j (ZV a) i (BV (ZV a) i j (QZ a)) (BX (ZV a) i j (QZ a)) (BU (ZV a) i j (QZ a)) (BF (ZV a) i j) (BF (QZ a) i j)))) (EY (RR (QZ a)) (iD (ZV a) (UM a))) (EV (RR (QZ a)) (iD (ZV a) (UM a))) (QQ (QZ a) (iD (ZV a) (UM a))) (IQ (QZ a) (iD (ZV a) (UM a))) (IP (WI (QZ a)) (Cp (QZ a)) DT) (UM a) (JN (UM a)))) (not (rU (GE (xF (ZV a) (UM a))))) (AJ (CD (GW (Zv a))) (CD (GY (Zv a))) (CD (HB (Zv a))) (CD (GX (Zv a))) (AO (Lp a) 6)) (AJ (AO (GW (Zv a)) (GW (uA (ZV a) (UM a) (UM a)))) (AO (GY (Zv a)) (GY (uA (ZV a) (UM a) (UM a)))) (AO (HB (Zv a)) (HB (uA (ZV a) (UM a) (UM a)))) (AO (GX (Zv a)) (GX (uA (ZV a) (UM a) (UM a)))) (CD (Lp a)))) := by kernel_rfl
def BJI (a : GBt) : Prop := CH Try.prog BGV J6 (AI J6) (xGBt a) (AD []) (C_Flow.val a) [] [] []
theorem BTG (a : GBt) : (BJI a) = (((OC a.g.length λ (i : Nat) => gD a.g i).length = a.g.length /\ (∀ (i : Nat), i < (OC a.g.length λ (i : Nat) => gD a.g i).length -> (gD (OC a.g.length λ (i : Nat) => gD
 a.g i) i).st = (gD a.g i).st /\ (gD (OC a.g.length λ (i : Nat) => gD a.g i) i).lo = (gD a.g i).lo /\ (gD (OC a.g.length λ (i : Nat) => gD a.g i) i).hi = (gD a.g i).hi) /\ (OC a.b.length λ (i : Nat) => gD a.b
 i).length = a.b.length /\ (∀ (i : Nat), i < (OC a.b.length λ (i : Nat) => gD a.b i).length -> gD (OC a.b.length λ (i : Nat) => gD a.b i) i = gD a.b i) /\ a.t = a.t /\ ((OC a.g.length λ (i : Nat) => gD a.g i).length
 < 4611686018427387904 /\ (OC a.b.length λ (i : Nat) => gD a.b i).length < 4611686018427387904) /\ DQ (gbt (GBt.mk (OC a.g.length λ (i : Nat) => gD a.g i) (OC a.b.length λ (i : Nat) => gD a.b i) a.t)) = 0 /\ inT
 (GBt.mk (OC a.g.length λ (i : Nat) => gD a.g i) (OC a.b.length λ (i : Nat) => gD a.b i) a.t) = false) /\ (Ez a).lo.n = 0 /\ (Ez a).lo.d = 0 /\ (Ez a).hi.n = 0 /\ (Ez a).hi.d = 0 /\ Lp a = 4) := by
 kernel_rfl
def BIF (a : GBt) : Prop := CH Try.prog BJY J6 (AI J6) (xGBt a) (AD []) (C_Flow.val a) [] [] []
theorem BNH (a : GBt) : (BIF a) = (AE (JV (AW (UO a) (Sa a)) (BE (UO a) (Sa a)) (ZC a) (bP a) (AK (UM a)) (Ky (FW (UO a)) (ZC a) 4611686018427387904) (Bm (eU (kM a)))) (FA (KO (eU (kM a))) (AJ (CD (GW (Zv a))) (CD (GY (Zv a))) (CD (HB (Zv a))) (CD (GX (Zv a))) (AO (Lp a) (eU (kM a)))) WQ) EF) := by kernel_rfl
theorem BRI : ∀ (l : List Int) (x : Int), 0 <= x /\ x <= 2000 -> brk x l = 0 -> l.Pairwise (· < ·) /\ ∀ y ∈ l, x < y /\ y <= 2000
 | [], _, _, _ => ⟨.nil, by simp⟩
 | z :: l, x, hx, h => by
  unfold brk at h
  cases hi : Cb z (wr (x + 1)) 2000 with
  | false => rw [hi] at h; cases h
  | true =>
   rw [hi] at h
   unfold wr Cb at hi
   rw [LS (n := x + 1) (by omega) (by omega)] at hi
   simp only [Bool.and_eq_true, decide_eq_true_eq] at hi
   obtain ⟨h1, h2⟩ := BRI l z (by omega) h
   refine ⟨List.pairwise_cons.2 ⟨λ y hy => (h2 y hy).1, h1⟩, λ y hy => ?_⟩
   rcases List.mem_cons.1 hy with rfl | hy
   ·exact ⟨by omega, by omega⟩
   ·have := h2 y hy; exact ⟨by omega, this.2⟩
theorem AAZ {a : GB} (h : DQ a = 0) : XS a.g a.b := by
 unfold DQ at h
 cases h1 : AZ a.g == 0 with
 | false => rw [h1] at h; rw [show AZ a.g = 0 from h] at h1; cases h1
 | true =>
  rw [h1] at h
  have h : Kt a.b = 0 := h
  have h1 : AZ a.g = 0 := by simpa using h1
  unfold AZ at h1
  cases h2 : Cb a.g.length 1 24 with
  | false => rw [h2] at h1; cases h1
  | true =>
   rw [h2] at h1
   cases h3 : a.g.all riG with
   | false => rw [h3] at h1; cases h1
   | true =>
    unfold Cb at h2
    simp only [Bool.and_eq_true, decide_eq_true_eq] at h2
    unfold Kt at h
    split at h
    ·cases h
    ·obtain ⟨h5, h6⟩ := BRI _ 0 (by omega) h
     refine ⟨by omega, λ x hx => ?_, by omega, h5, λ y hy => ⟨by have := h6 y hy; omega, (h6 y hy).2⟩⟩
     have := List.all_eq_true.1 h3 x hx
     unfold riG Cb at this
     simp only [Bool.and_eq_true, decide_eq_true_eq] at this
     unfold XH; omega
theorem BVM : AL Try.prog BFS (C_Flow.spec dGBt) := Ctr.spec_ok (C := C_Flow) (λ (a : GBt) h => by
 have h : preT a := (show preT a /\ True from h).1
 by_cases hE : DQ (gbt a) = 0
 ·cases hT : inT a with
  | true =>
   refine Lg (A := BGP) (L := []) (keep := []) (ren := []) (fz := []) AVE (by kernel_rfl) (AB CCF (AB zC AF)) ?_
   show BIQ a; rw [BQE]<;> delta KY Dc GH HK FK KZ KR LU MC PN FA AO AT CX AG CG CM EM DB DW DT PQ SL RN bJ bN DM GP XV XJ Cr RR RQ ZE AR Ii Bw GE MO DJ Cs Lz Sa bP UM Zv KK AE KC AJ AP NV AU AK JQ ZD QS WI AX Ib qY AQ AH Uu BH CY Wy BN CL CZ CA FT GI BB Ek JO iD rH HI hP CQ EP DF FC NT UO xF DG EN AW BF LW uA DE DN EO Kp ZI DY Lb CD LI Ls Kc Cp ABS EU FE ZC TC DV HP FG Jo CE CO JN QF DO MN Fc Lj FB BE XF LO GX GW BI MS kM BS LA GY HB QZ Ef HL MU BT UG EV SG BU BX BV YT EY RB FW MD HM IQ MA ZV QQ IP WJ MH Nd rU Ky eU; simp only [CC, eq_self, implies_true, forall_const, Ec, Rj, xN, xP, Rn, show GBt.mk a.g a.b a.t = a from rfl, show BkT.mk (PE (gbt a)) a.t = bkT a from rfl]
   have hi : 0 <= a.t /\ a.t <= 2000 := by
    unfold inT Cb at hT; simpa using hT
   have hb : XS (gbt a).g (gbt a).b := AAZ hE
   refine ⟨⟨h, hE, hT⟩, ⟨hb, hi⟩, λ hc => ?_, λ hc => ?_⟩
   ·have e : Lp a = 6 := by unfold Lp; rw [hE, hT, decide_eq_true (show (lB (bkT a)).length = 0 by omega)]; rfl
    have e2 : Ez a = default := by unfold Ez; rw [e]; rfl
    rw [e2]; exact ⟨rfl, rfl, rfl, rfl, e⟩
   ·have e : Lp a = 0 := by unfold Lp; rw [hE, hT, decide_eq_false hc]; rfl
    have e2 : Ez a = bndM (lB (bkT a)) a.t := by unfold Ez; rw [e]; rfl
    rw [e2]; exact ⟨rfl, rfl, rfl, rfl, e⟩
  | false =>
   refine Lg (A := BGV) (L := []) (keep := []) (ren := []) (fz := []) AVE (by kernel_rfl) (AB BVE (AB zC AF)) ?_
   show BJI a; rw [BTG]; simp only [CC, eq_self, implies_true, forall_const, show GBt.mk a.g a.b a.t = a from rfl]
   have e : Lp a = 4 := by unfold Lp; rw [hE, hT]; rfl
   have e2 : Ez a = default := by unfold Ez; rw [e]; rfl
   rw [e2]; exact ⟨⟨h, hE, hT⟩, rfl, rfl, rfl, rfl, e⟩
 ·refine Lg (A := BJY) (L := []) (keep := []) (ren := []) (fz := []) AVE (by kernel_rfl) (AB BXE (AB zC AF)) ?_
  show BIF a; rw [BNH]<;> delta GH HK FK Tu FA AO AT CX AG CG CM EM PQ WQ SL RN bJ bN DM GP EF Cs Sa bP UM Zv KK AE KC AJ AP AU AK QS AX BH CY BN CL CZ FT GI BB HI CQ DF FC UO DG EN AW DE DN EO DS DY CD Kc EU FE ZC DV HP FG CE CO MN FB BE GX GW kM GY HB KO FW Bm JV Ky eU; simp only [CC, eq_self, implies_true, forall_const, show GBt.mk a.g a.b a.t = a from rfl]
  have e : Lp a = DQ (gbt a) := by unfold Lp; rw [show (DQ (gbt a) == 0) = false by simpa using hE]; rfl
  have e2 : Ez a = default := by unfold Ez; rw [e, show (DQ (gbt a) == 0) = false by simpa using hE]; rfl
  rw [e2]; exact ⟨⟨h, hE⟩, λ _ => ⟨rfl, rfl, rfl, rfl, e⟩, λ hc => hE (by simpa using hc)⟩) _
end Go.Bal
