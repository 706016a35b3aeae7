/- Package rating: the last stage of a part for which something is so. -/
import Derived.Test.YtoihhodbkimedaaRatK
set_option linter.unusedVariables false
set_option linter.unusedSimpArgs false
namespace Go.Bal
open Go Go.Sym Go.Proofs
def CAU (a : UpI) : Prop := CH Try.prog (A_up W9 QM ((Un W9).spec dBnF) a) mO (AI mO) ((Z9 W9 QM).xs a) (AD ((Z9 W9 QM).L a)) ((Z9 W9 QM).val a) ((Z9 W9 QM).keep a) [] []
abbrev aI a:=upM W9 a
attribute [go_sem] aI
theorem CEN (a : UpI) : (CAU a) = (AE (AH (AK (aE a)) (AW (WP a) (UR a)) (BE (WP a) (UR a)) (AQ (BB (UL a) (lG a)) (MA (UL a) (BL a)) DO (Qd a) (Og a) (AR (λ i=>BS (IU a) i (BL a) (λ j=>BT j (IU a) i (BV (IU a) i j (BL a)) (BX (IU a) i j (BL a)) (BU (IU a) i j (BL a)) (BF (IU a) i j) (Ay a i j)))) (AW (UR a) (WP a)) (BE (UR a) (WP a)) (MH (Cx (BL a) (UL a)) (RB (BL a) (UL a)) DO (Qd a) (Og a) (AR (λ i=>BS (BL a) i (IU a) (λ j=>BT j (BL a) i (BV (BL a) i j (IU a)) (BX (BL a) i j (IU a)) (BU (BL a) i j (IU a)) (Ay a i j) (BF (IU a) i j)))) (IP (WP a) (UL a) DT) (aE a) (UC (aE a) (UL a))))) (Sq (λ i=>AJ (MV (Bd i (QJ (VT (IU a) (aE a)))) (Al i (Gk (IU a) (aE a))) (UR a) (AQ (Yq a) (Yr a) (Xm a a) DO (Qd a) (Og a) (AR (λ j=>SH (BL a) j (λ k=>SD k (BL a) j (SP (BL a) j k) (Ay a j k)))) (Mo a) (Ny a))) (Yy a a i) (TX i) (aY i a a) (AG (λ j=>TZ i j (aI a) (upP W9 a) j i i)))) (ABE (λ i=>EZ (AH (Yy a a i) (TX i) (aY i a a) (AG (λ j=>TZ i j (aI a) (upP W9 a) j i i))) (ZQ i) (Kb i) (AH (Tb 2) (BI (AK (VU i)) (AW (WP a) (UR a)) (BE (WP a) (UR a)) (BB (UL a) (lG a)) (MA (UL a) (BL a)) DO (Qd a) (MH (Og a) (AR (λ j=>BS (IU a) j (BL a) (λ k=>BT k (IU a) j (BV (IU a) j k (BL a)) (BX (IU a) j k (BL a)) (BU (IU a) j k (BL a)) (BF (IU a) j k) (Ay a j k)))) (EY (UR a) (FV a i)) (EV (UR a) (FV a i)) (QQ (BL a) (FV a i)) (IQ (BL a) (FV a i)) (IP (WP a) (UL a) DT) (VU i) (JN (VU i)))) (AH (AO (GW (Qs a i)) (GW (Fo a i))) (AO (GY (Qs a i)) (GY (Fo a i))) (AO (HB (Qs a i)) (HB (Fo a i))) (AOH (AO (GX (Qs a i)) (GX (Fo a i))) (Mo a) (Ny a))) (FA (W9 (BnF.mk (Qs a i) (UpI.f a))) (Sq (λ j=>FU (MV (Bd j (VU i)) (Al j (Kb i)) (UR a) (AQ (Yq a) (Yr a) (Xm a a) DO (AR (λ k=>NL (BL a) k (FV a i) k)) (HN (BL a) (FV a i)) (AR (λ k=>BS (BL a) k (FV a i) (λ l=>BT l (BL a) k (BV (BL a) k l (FV a i)) (BX (BL a) k l (FV a i)) (BU (BL a) k l (FV a i)) (Ay a k l) (BF (FV a i) k l)))) (Mo a) (Ny a))) (Yy a a j) (TX j) (aY j a a) (AG (λ k=>TZ j k (aI a) (upP W9 a) k j j)) (SB j) (SB i))) (Sq (λ j=>FU (MV (Bd j (ZQ i)) (Al j (QJ (VU i))) (UR a) (AQ (Yq a) (Yr a) (Xm a a) DO (AR (λ k=>NL (BL a) k (FV a i) k)) (HN (BL a) (FV a i)) (AR (λ k=>BS (BL a) k (FV a i) (λ l=>BT l (BL a) k (BV (BL a) k l (FV a i)) (BX (BL a) k l (FV a i)) (BU (BL a) k l (FV a i)) (Ay a k l) (BF (FV a i) k l)))) (Mo a) (Ny a))) (Yy a a j) (TX j) (aY j a a) (AG (λ k=>TZ j k (aI a) (upP W9 a) k j j)) (SB j) (SB i))))) (AE (AO (aI a) (ZQ i)) (AS (UR a)) (AQ (Yq a) (Yr a) (Xm a a) DO (Qd a) (Og a) (AR (λ j=>SH (BL a) j (λ k=>SD k (BL a) j (SP (BL a) j k) (Ay a j k)))) (Mo a) (Ny a)))))) := by kernel_rfl
theorem CHO (a : UpI) (h : XS a.w.g a.w.b) (hk : 0 <= a.k /\ a.k <= a.w.b.length) (hh : a.w.has a.k = true) : CAU a := by
 rw [CEN]<;> delta KY GH HK FK KZ KR LU MC KN FA AO AT CX AG CG CM EM BK DB DW DT QP PD RO PQ Ah YC WQ SL jR RN bJ bN DM GP XV XJ GF Cr RR RQ ZE AR Ii Bw GE MO Zy La Lz aE BL Sq ZQ Kb ABE APQ KK AE KC AJ AP NV DR AU AK BO JQ ZD Ep AOH WI DK AX Ib qY AQ AH Uu BH TA CY Wy BN CL CZ CA DP FT xE GI gR BB Ek iD rH HI hP AOE CQ EP DF FP MX FC NT xF DG EN AW BF CJ uA AOW DE DN AS EO Kp ZI DY Lb QJ LI AMM Ls UR Cp EU FE IU TC VU DV HP FG Jo CE MK AOF JN QF ABW IF DO Fc Lj ANA FB HD UP FH BE CB Iw XF LO GX GW BI MS BS Fo EZ LA GY HB Dg Ef HL MU Hd FV SH SP BT VT UG EV SB SG BU BX BV YT EY UL Gk RB MD WP FU IQ lG SD HN MA UC NL Km bG TX V5 MV QQ Q6 dG Ay IP Qa Al TZ Bd Mo Og Ny Qd Qs MH Cx Yq Yr Xm aI Yy Tb aY; simp only [CC, eq_self, implies_true, forall_const, Ec, Rj, xN, xP, Rn, ALB, if_true]
 obtain ⟨s1, s2, s3, s4⟩ := oE h hk.1 hk.2
 refine ⟨⟨h, hk⟩, ⟨⟨(DI a.w a.k).lo - 1, (DI a.w a.k).hi⟩, ⟨(LS (n := (DI a.w a.k).lo - 1) (by omega) (by omega)).symm, rfl⟩, Int.le_refl _, (by omega : (DI a.w a.k).lo - 1 <= (DI a.w a.k).hi), Int.le_refl _, λ m hm => TB 3000 m ((DI a.w a.k).lo - 1) (DI a.w a.k).hi (by omega) (by omega) hm⟩, λ x ⟨i1, i2, i3, i4⟩ => ⟨λ hl => ?_, λ hl => ?_⟩⟩
 ·obtain ⟨m1, m2⟩ := P4 hl
  simp only [BHG (lo := x.lo) (hi := x.hi) (by omega) (by omega) (by omega), show ∀ t, kB ⟨a.w, t⟩ = (Tl a.w.b t : Int) from λ _ => rfl, s4 _ (show (DI a.w a.k).lo <= x.lo + (x.hi - x.lo + 1).tdiv 2 by omega) (by omega), Wn hh, implies_true, and_true]
  obtain ⟨n, hn⟩ : ∃ n, (x.hi - x.lo).toNat = n + 1 := ⟨(x.hi - x.lo).toNat - 1, by omega⟩
  have key := i4 (n + 1) (by omega)
  unfold upL at key
  rw [decide_eq_true hl] at key
  generalize hM : x.lo + (x.hi - x.lo + 1).tdiv 2 = M at *
  refine ⟨by simp, ⟨h, by omega, by omega⟩, λ hp => ⟨⟨M, x.hi⟩, ⟨rfl, rfl⟩, ⟨(by omega : (DI a.w a.k).lo - 1 <= M), m2, i3, λ m hm => ?_⟩, (by omega : (x.hi - M).toNat < (x.hi - x.lo).toNat)⟩, λ hp => ⟨⟨x.lo, M - 1⟩, ⟨rfl, (LS (n := M - 1) (by omega) (by omega)).symm⟩, ⟨i1, (by omega : x.lo <= M - 1), (by omega : M - 1 <= (DI a.w a.k).hi), λ m hm => ?_⟩, (by omega : (M - 1 - x.lo).toNat < (x.hi - x.lo).toNat)⟩⟩
  ·rw [key, show upP W9 a M = true from hp]
   exact TB n m M x.hi m2 (by omega) hm
  ·rw [key, show upP W9 a M = false from hp]
   exact TB n m x.lo (M - 1) (by omega) (by omega) hm
 ·rw [i4 0 (by omega)]; rfl
theorem BSI : AL Try.prog J5 ((Z9 xQ QN).spec (dUpI QN)) := Ih (Z9 xQ QN) (A_up xQ QN ((Un xQ).spec dBnF)) [] [] AKU (λ _ => by kernel_rfl) (λ _ => AB wG (AB zC (AB CEH AF))) (λ (a : UpI) h => by
 have h : XS a.w.g a.w.b /\ 0 <= a.k /\ a.k <= a.w.b.length /\ a.w.has a.k = true := h
 exact CHV a h.1 ⟨h.2.1, h.2.2.1⟩ h.2.2.2) (λ _ => Jf rfl rfl) _
theorem BSA : AL Try.prog J5 ((Z9 W9 QM).spec (dUpI QM)) := Ih (Z9 W9 QM) (A_up W9 QM ((Un W9).spec dBnF)) [] [] AKU (λ _ => by kernel_rfl) (λ _ => AB wG (AB zC (AB CDU AF))) (λ (a : UpI) h => by
 have h : XS a.w.g a.w.b /\ 0 <= a.k /\ a.k <= a.w.b.length /\ a.w.has a.k = true := h
 exact CHO a h.1 ⟨h.2.1, h.2.2.1⟩ h.2.2.2) (λ _ => Jf rfl rfl) _
def dryR (r : Rt) : Bool := r.n == 0 && r.d == 1
def BSC := pD dR1 λ r => .bool (dryR r)
def BOP (r : Rt) : Prop := CH Try.prog (ann 6 []) BFU (AI BFU) (xR1 r) (AD []) (.bool (dryR r)) [] [] []
theorem BYA (r : Rt) : (BOP r) = (KY (dryR r) (and (MJ (SL r)) (and (TU (RN r) 1) PN))) := by kernel_rfl
structure BnO where
 b : Bnd
def bxF : AObj := .box [.fn (.func AEQ) [] []]
def dBnO : List AVal -> Heap -> Option (BnO × List (Nat × Nat) × List Nat)
 | [.d x, .bptr id _], H => match H id with
  | .live (.box [.fn (.func g) [] []]) => if g = AEQ then some (⟨dBnd x⟩, [(100, id)], []) else none
  | _ => none
 | _, _ => none
def Uo (v : BnO -> Bool) : Ctr := { ro := [100], α := BnO, xs := λ a => [.d (eBnd a.b), .bptr 100 0], L := λ _ => [(100, bxF)], val := λ a => .bool (v a), keep := λ _ => [(100, .live bxF)] }
def wV (a : BnO) : Bool := dryR a.b.hi
def xB (a : BnO) : Bool := dryR a.b.lo
def BHL : Ann := { ann 8 [(AEQ, BSC)] with E := [100] }
def CBB (a : BnO) : Prop := CH Try.prog BHL BDS (AI BDS) ((Uo wV).xs a) (AD ((Uo wV).L a)) ((Uo wV).val a) ((Uo wV).keep a) [] []
theorem CCG (a : BnO) : (CBB a) = (KY (wV a) (dryR (bN (BnO.b a)))) := by kernel_rfl
def CBL (a : BnO) : Prop := CH Try.prog BHL BFQ (AI BFQ) ((Uo xB).xs a) (AD ((Uo xB).L a)) ((Uo xB).val a) ((Uo xB).keep a) [] []
theorem CCN (a : BnO) : (CBL a) = (KY (xB a) (dryR (bJ (BnO.b a)))) := by kernel_rfl
theorem BIL : AL Try.prog AEQ BSC := Cq xR1 hR1 λ g _ => Lg (A := ann 6 []) (ren := []) (fz := []) BVG (by kernel_rfl) AF (by
 show BOP g; rw [BYA]<;> delta KY PN SL RN TU MJ; unfold dryR; rw [Bool.and_true])
theorem CDN : AL Try.prog Pc ((Uo wV).spec dBnO) := Ih (Uo wV) (λ _ => BHL) [] [] BXP (λ _ => by kernel_rfl) (λ _ => AB BIL AF) (λ (a : BnO) _ => by
 show CBB a; rw [CCG]<;> delta KY bN; rfl) (λ _ => Jf rfl rfl) _
theorem CCU : AL Try.prog Oq ((Uo xB).spec dBnO) := Ih (Uo xB) (λ _ => BHL) [] [] BWV (λ _ => by kernel_rfl) (λ _ => AB BIL AF) (λ (a : BnO) _ => by
 show CBL a; rw [CCN]<;> delta KY bJ; rfl) (λ _ => Jf rfl rfl) _
def dUpO (n : FuncId) : List AVal -> Heap -> Option (BkI × List (Nat × Nat) × List Nat)
 | [.bptr id _, .d k, .fn (.func g) [] [.bptr c _]], H => if g = n then match ATV H id, H c with
  | some (w, q), .live (.box [.fn (.func f) [] []]) => if f = AEQ then some (⟨w, JD k⟩, [(100, id), (101, q), (102, c)], []) else none
  | _, _ => none else none
 | _, _ => none
def upPO (v : BnO -> Bool) (a : BkI) (t : Int) : Bool := v ⟨bndM (lB ⟨a.w, t⟩) t⟩
def upMO (v : BnO -> Bool) (a : BkI) : Int := upL (upPO v a) 3000 ((DI a.w a.k).lo - 1) (DI a.w a.k).hi
def upHO (a : BkI) : List (Nat × HCell) := bkK a.w ++ [(102, .live bxF)]
def upO3 (v : BnO -> Bool) (n : FuncId) (a : BkI) : Shape := { α := LH, dflt := default, T := λ x => ⟨[(0, .bptr 100 0), (2, .fn (.func n) [] [.bptr 102 0]), (8, .int x.lo), (9, .int x.hi)], upHO a⟩, inv := λ x => (DI a.w a.k).lo - 1 <= x.lo /\ x.lo <= x.hi /\ x.hi <= (DI a.w a.k).hi /\ ∀ m : Nat, (x.hi - x.lo).toNat <= m -> upMO v a = upL (upPO v a) m x.lo x.hi, meas := λ x => (x.hi - x.lo).toNat }
def cL (v : BnO -> Bool) (n : FuncId) : Ctr := { ro := [100, 101, 102], α := BkI, xs := λ a => [.bptr 100 0, .int a.k, .fn (.func n) [] [.bptr 102 0]], L := λ a => bkL a.w ++ [(102, bxF)], val := λ a => .int (upMO v a), keep := λ a => upHO a, pre := λ a => [XS a.w.g a.w.b /\ 0 <= a.k /\ a.k <= a.w.b.length /\ a.w.has a.k = true] }
def BIS (v : BnO -> Bool) (n : FuncId) (f : Sym.Spec) (a : BkI) : Ann := { ann 44 [(AOC, C_span.spec dBkI), (Xo, C_bnd.spec dBkt), (n, f)] with E := [100, 101, 102], loops := λ id => if id = 3 then some [upO3 v n a] else none }
def BSF (a : BkI) : Prop := CH Try.prog (BIS wV Pc ((Uo wV).spec dBnO) a) mO (AI mO) ((cL wV Pc).xs a) (AD ((cL wV Pc).L a)) ((cL wV Pc).val a) ((cL wV Pc).keep a) [] []
abbrev Ul:=upMO
abbrev Xx a b c:=V5 a (BQ b) (HS c)
abbrev Ys a b c:=Q6 (BQ a) (HS b) c
abbrev IV a:=hP (BQ a) (BQ a)
abbrev FY a b:=AOF (IV a) b
abbrev Hv a b:=ANA (IV a) b
abbrev Ox a b:=dBnd (DVal.agg (ABW (GW (Hv a b)) (GY (Hv a b)) (ABW (HB (Hv a b)) (GX (Hv a b)) APQ)))
abbrev WL a:=WI (BQ a)
attribute [go_sem] Ul Xx Ys IV FY Hv Ox WL
theorem BVU (a : BkI) : (BSF a) = (AE (AH (AK (HS a)) (AW (WL a) (JF a)) (BE (WL a) (JF a)) (AQ (BB (MQ a) (XM a)) (CE (MQ a) (XD a)) DO (IN a) (IS a) (AR (λ i=>BS (IV a) i (BQ a) (λ j=>BT j (IV a) i (BV (IV a) i j (BQ a)) (BX (IV a) i j (BQ a)) (BU (IV a) i j (BQ a)) (BF (IV a) i j) (Dd a i j)))) (AW (JF a) (WL a)) (BE (JF a) (WL a)) (MH (AT (XM a) (CX (MQ a))) (AG (λ i=>TC i (XM a) (XD a) (MQ a))) DO (IN a) (IS a) (AR (λ i=>BS (BQ a) i (IV a) (λ j=>BT j (BQ a) i (BV (BQ a) i j (IV a)) (BX (BQ a) i j (IV a)) (BU (BQ a) i j (IV a)) (Dd a i j) (BF (IV a) i j)))) (IP (WL a) (MQ a) DT) (HS a) (UC (HS a) (MQ a))))) (Sq (λ i=>AJ (And (Bd i (QJ (VT (IV a) (HS a)))) (WN (Al i (Gk (IV a) (HS a))) a a a a (IN a) (IS a) (λ j=>NQ a j (λ k=>NO k a j a j k a j k)))) (Ys a a i) (TX i) (Xx i a a) (AG (λ j=>TZ i j (Ul wV a) (upPO wV a) j i i)))) (ABE (λ i=>EZ (AH (Ys a a i) (TX i) (Xx i a a) (AG (λ j=>TZ i j (Ul wV a) (upPO wV a) j i i))) (ZQ i) (Kb i) (AH (Tb 2) (BI (AK (VU i)) (AW (WL a) (JF a)) (BE (WL a) (JF a)) (BB (MQ a) (XM a)) (CE (MQ a) (XD a)) DO (IN a) (MH (IS a) (AR (λ j=>BS (IV a) j (BQ a) (λ k=>BT k (IV a) j (BV (IV a) j k (BQ a)) (BX (IV a) j k (BQ a)) (BU (IV a) j k (BQ a)) (BF (IV a) j k) (Dd a j k)))) (EY (JF a) (FY a i)) (EV (JF a) (FY a i)) (AT (XM a) (NV (FY a i))) (AG (λ j=>TC j (XM a) (XD a) (RQ (FY a i)))) (IP (WL a) (MQ a) DT) (VU i) (JN (VU i)))) (AH (AO (GW (Ox a i)) (GW (Hv a i))) (AO (GY (Ox a i)) (GY (Hv a i))) (AO (HB (Ox a i)) (HB (Hv a i))) (AO (GX (Ox a i)) (GX (Hv a i)))) (FA (wV (BnO.mk (Ox a i))) (Sq (λ j=>FU (And (Bd j (VU i)) (WN (Al j (Kb i)) a a a a (AR (λ k=>NL (BQ a) k (FY a i) k)) (HN (BQ a) (FY a i)) (λ k=>BS (BQ a) k (FY a i) (λ l=>BT l (BQ a) k (BV (BQ a) k l (FY a i)) (BX (BQ a) k l (FY a i)) (BU (BQ a) k l (FY a i)) (Dd a k l) (BF (FY a i) k l))))) (Ys a a j) (TX j) (Xx j a a) (AG (λ k=>TZ j k (Ul wV a) (upPO wV a) k j j)) (SB j) (SB i))) (Sq (λ j=>FU (And (Bd j (ZQ i)) (WN (Al j (QJ (VU i))) a a a a (AR (λ k=>NL (BQ a) k (FY a i) k)) (HN (BQ a) (FY a i)) (λ k=>BS (BQ a) k (FY a i) (λ l=>BT l (BQ a) k (BV (BQ a) k l (FY a i)) (BX (BQ a) k l (FY a i)) (BU (BQ a) k l (FY a i)) (Dd a k l) (BF (FY a i) k l))))) (Ys a a j) (TX j) (Xx j a a) (AG (λ k=>TZ j k (Ul wV a) (upPO wV a) k j j)) (SB j) (SB i))))) (WN (AO (Ul wV a) (ZQ i)) a a a a (IN a) (IS a) (λ j=>NQ a j (λ k=>NO k a j a j k a j k)))))) := by kernel_rfl
def BTV (a : BkI) : Prop := CH Try.prog (BIS xB Oq ((Uo xB).spec dBnO) a) mO (AI mO) ((cL xB Oq).xs a) (AD ((cL xB Oq).L a)) ((cL xB Oq).val a) ((cL xB Oq).keep a) [] []
theorem BWS (a : BkI) : (BTV a) = (AE (AH (AK (HS a)) (AW (WL a) (JF a)) (BE (WL a) (JF a)) (AQ (BB (MQ a) (XM a)) (CE (MQ a) (XD a)) DO (IN a) (IS a) (AR (λ i=>BS (IV a) i (BQ a) (λ j=>BT j (IV a) i (BV (IV a) i j (BQ a)) (BX (IV a) i j (BQ a)) (BU (IV a) i j (BQ a)) (BF (IV a) i j) (Dd a i j)))) (AW (JF a) (WL a)) (BE (JF a) (WL a)) (MH (AT (XM a) (CX (MQ a))) (AG (λ i=>TC i (XM a) (XD a) (MQ a))) DO (IN a) (IS a) (AR (λ i=>BS (BQ a) i (IV a) (λ j=>BT j (BQ a) i (BV (BQ a) i j (IV a)) (BX (BQ a) i j (IV a)) (BU (BQ a) i j (IV a)) (Dd a i j) (BF (IV a) i j)))) (IP (WL a) (MQ a) DT) (HS a) (UC (HS a) (MQ a))))) (Sq (λ i=>AJ (And (Bd i (QJ (VT (IV a) (HS a)))) (WN (Al i (Gk (IV a) (HS a))) a a a a (IN a) (IS a) (λ j=>NQ a j (λ k=>NO k a j a j k a j k)))) (Ys a a i) (TX i) (Xx i a a) (AG (λ j=>TZ i j (Ul xB a) (upPO xB a) j i i)))) (ABE (λ i=>EZ (AH (Ys a a i) (TX i) (Xx i a a) (AG (λ j=>TZ i j (Ul xB a) (upPO xB a) j i i))) (ZQ i) (Kb i) (AH (Tb 2) (BI (AK (VU i)) (AW (WL a) (JF a)) (BE (WL a) (JF a)) (BB (MQ a) (XM a)) (CE (MQ a) (XD a)) DO (IN a) (MH (IS a) (AR (λ j=>BS (IV a) j (BQ a) (λ k=>BT k (IV a) j (BV (IV a) j k (BQ a)) (BX (IV a) j k (BQ a)) (BU (IV a) j k (BQ a)) (BF (IV a) j k) (Dd a j k)))) (EY (JF a) (FY a i)) (EV (JF a) (FY a i)) (AT (XM a) (NV (FY a i))) (AG (λ j=>TC j (XM a) (XD a) (RQ (FY a i)))) (IP (WL a) (MQ a) DT) (VU i) (JN (VU i)))) (AH (AO (GW (Ox a i)) (GW (Hv a i))) (AO (GY (Ox a i)) (GY (Hv a i))) (AO (HB (Ox a i)) (HB (Hv a i))) (AO (GX (Ox a i)) (GX (Hv a i)))) (FA (xB (BnO.mk (Ox a i))) (Sq (λ j=>FU (And (Bd j (VU i)) (WN (Al j (Kb i)) a a a a (AR (λ k=>NL (BQ a) k (FY a i) k)) (HN (BQ a) (FY a i)) (λ k=>BS (BQ a) k (FY a i) (λ l=>BT l (BQ a) k (BV (BQ a) k l (FY a i)) (BX (BQ a) k l (FY a i)) (BU (BQ a) k l (FY a i)) (Dd a k l) (BF (FY a i) k l))))) (Ys a a j) (TX j) (Xx j a a) (AG (λ k=>TZ j k (Ul xB a) (upPO xB a) k j j)) (SB j) (SB i))) (Sq (λ j=>FU (And (Bd j (ZQ i)) (WN (Al j (QJ (VU i))) a a a a (AR (λ k=>NL (BQ a) k (FY a i) k)) (HN (BQ a) (FY a i)) (λ k=>BS (BQ a) k (FY a i) (λ l=>BT l (BQ a) k (BV (BQ a) k l (FY a i)) (BX (BQ a) k l (FY a i)) (BU (BQ a) k l (FY a i)) (Dd a k l) (BF (FY a i) k l))))) (Ys a a j) (TX j) (Xx j a a) (AG (λ k=>TZ j k (Ul xB a) (upPO xB a) k j j)) (SB j) (SB i))))) (WN (AO (Ul xB a) (ZQ i)) a a a a (IN a) (IS a) (λ j=>NQ a j (λ k=>NO k a j a j k a j k)))))) := by kernel_rfl
theorem CER (a : BkI) (h : XS a.w.g a.w.b) (hk : 0 <= a.k /\ a.k <= a.w.b.length) (hh : a.w.has a.k = true) : BSF a := by
 rw [BVU]<;> delta KY GH HK FK KZ KR LU MC KN FA AO AT CX AG CG CM EM BK DB DW DT QP PD RO PQ Ah YC WQ SL jR RN bJ bN DM GP XV XJ GF Cr HS RR BQ RQ ZE AR Ii Bw GE MO Zy La Lz Sq ZQ Kb ABE APQ Ul KK AE KC AJ AP NV DR AU AK BO JQ ZD WI DK AX Ib qY AQ AH Uu BH TA CY Wy BN CL CZ CA DP FT xE GI gR JF BB Ek iD rH HI hP AOE CQ EP DF FP MX FC NT xF DG EN AW BF CJ uA AOW DE DN AS EO Kp ZI DY Lb QJ LI AMM Ls Cp EU FE IV TC VU DV HP FG Jo CE MK AOF JN QF XM ABW IF DO Fc Lj ANA FB HD UP FH BE CB Iw XF Hv LO GX GW BI MS BS EZ LA GY HB XD Dg Ef HL MU FY Hd RM MQ RJ SH SP Dd BT VT EV IS SB SG BU BX BV EY IN Bh OW Gk Az MD MW FU WL SD HN NQ UC NL TX V5 NO Q6 IP Qa Al TZ Bd Ox MH WN Xx Tb Ys; simp only [CC, eq_self, implies_true, forall_const, Ec, Rj, xN, xP, Rn, ALB, if_true]
 obtain ⟨s1, s2, s3, s4⟩ := oE h hk.1 hk.2
 refine ⟨⟨h, hk⟩, ⟨⟨(DI a.w a.k).lo - 1, (DI a.w a.k).hi⟩, ⟨(LS (n := (DI a.w a.k).lo - 1) (by omega) (by omega)).symm, rfl⟩, Int.le_refl _, (by omega : (DI a.w a.k).lo - 1 <= (DI a.w a.k).hi), Int.le_refl _, λ m hm => TB 3000 m ((DI a.w a.k).lo - 1) (DI a.w a.k).hi (by omega) (by omega) hm⟩, λ x ⟨i1, i2, i3, i4⟩ => ⟨λ hl => ?_, λ hl => ?_⟩⟩
 ·obtain ⟨m1, m2⟩ := P4 hl
  simp only [BHG (lo := x.lo) (hi := x.hi) (by omega) (by omega) (by omega), show ∀ t, kB ⟨a.w, t⟩ = (Tl a.w.b t : Int) from λ _ => rfl, s4 _ (show (DI a.w a.k).lo <= x.lo + (x.hi - x.lo + 1).tdiv 2 by omega) (by omega), Wn hh, implies_true, and_true]
  obtain ⟨n, hn⟩ : ∃ n, (x.hi - x.lo).toNat = n + 1 := ⟨(x.hi - x.lo).toNat - 1, by omega⟩
  have key := i4 (n + 1) (by omega)
  unfold upL at key
  rw [decide_eq_true hl] at key
  generalize hM : x.lo + (x.hi - x.lo + 1).tdiv 2 = M at *
  refine ⟨by simp, ⟨h, by omega, by omega⟩, λ hp => ⟨⟨M, x.hi⟩, ⟨rfl, rfl⟩, ⟨(by omega : (DI a.w a.k).lo - 1 <= M), m2, i3, λ m hm => ?_⟩, (by omega : (x.hi - M).toNat < (x.hi - x.lo).toNat)⟩, λ hp => ⟨⟨x.lo, M - 1⟩, ⟨rfl, (LS (n := M - 1) (by omega) (by omega)).symm⟩, ⟨i1, (by omega : x.lo <= M - 1), (by omega : M - 1 <= (DI a.w a.k).hi), λ m hm => ?_⟩, (by omega : (M - 1 - x.lo).toNat < (x.hi - x.lo).toNat)⟩⟩
  ·rw [key, show upPO wV a M = true from hp]
   exact TB n m M x.hi m2 (by omega) hm
  ·rw [key, show upPO wV a M = false from hp]
   exact TB n m x.lo (M - 1) (by omega) (by omega) hm
 ·rw [i4 0 (by omega)]; rfl
theorem BKF : AL Try.prog J5 ((cL wV Pc).spec (dUpO Pc)) := Ih (cL wV Pc) (BIS wV Pc ((Uo wV).spec dBnO)) [] [] AKU (λ _ => by kernel_rfl) (λ _ => AB wG (AB zC (AB CDN AF))) (λ (a : BkI) h => by
 have h : XS a.w.g a.w.b /\ 0 <= a.k /\ a.k <= a.w.b.length /\ a.w.has a.k = true := h
 exact CER a h.1 ⟨h.2.1, h.2.2.1⟩ h.2.2.2) (λ _ => Jf rfl rfl) _
theorem CCY (a : BkI) (h : XS a.w.g a.w.b) (hk : 0 <= a.k /\ a.k <= a.w.b.length) (hh : a.w.has a.k = true) : BTV a := by
 rw [BWS]<;> delta KY GH HK FK KZ KR LU MC KN FA AO AT CX AG CG CM EM BK DB DW DT QP PD RO PQ Ah YC WQ SL jR RN bJ bN DM GP XV XJ GF Cr HS RR BQ RQ ZE AR Ii Bw GE MO Zy La Lz Sq ZQ Kb ABE APQ Ul KK AE KC AJ AP NV DR AU AK BO JQ ZD WI DK AX Ib qY AQ AH Uu BH TA CY Wy BN CL CZ CA DP FT xE GI gR JF BB Ek iD rH HI hP AOE CQ EP DF FP MX FC NT xF DG EN AW BF CJ uA AOW DE DN AS EO Kp ZI DY Lb QJ LI AMM Ls Cp EU FE IV TC VU DV HP FG Jo CE MK AOF JN QF XM ABW IF DO Fc Lj ANA FB HD UP FH BE CB Iw XF Hv LO GX GW BI MS BS EZ LA GY HB XD Dg Ef HL MU FY Hd RM MQ RJ SH SP Dd BT VT EV IS SB SG BU BX BV EY IN Bh OW Gk Az MD MW FU WL SD HN NQ UC NL TX V5 NO Q6 IP Qa Al TZ Bd Ox MH WN Xx Tb Ys; simp only [CC, eq_self, implies_true, forall_const, Ec, Rj, xN, xP, Rn, ALB, if_true]
 obtain ⟨s1, s2, s3, s4⟩ := oE h hk.1 hk.2
 refine ⟨⟨h, hk⟩, ⟨⟨(DI a.w a.k).lo - 1, (DI a.w a.k).hi⟩, ⟨(LS (n := (DI a.w a.k).lo - 1) (by omega) (by omega)).symm, rfl⟩, Int.le_refl _, (by omega : (DI a.w a.k).lo - 1 <= (DI a.w a.k).hi), Int.le_refl _, λ m hm => TB 3000 m ((DI a.w a.k).lo - 1) (DI a.w a.k).hi (by omega) (by omega) hm⟩, λ x ⟨i1, i2, i3, i4⟩ => ⟨λ hl => ?_, λ hl => ?_⟩⟩
 ·obtain ⟨m1, m2⟩ := P4 hl
  simp only [BHG (lo := x.lo) (hi := x.hi) (by omega) (by omega) (by omega), show ∀ t, kB ⟨a.w, t⟩ = (Tl a.w.b t : Int) from λ _ => rfl, s4 _ (show (DI a.w a.k).lo <= x.lo + (x.hi - x.lo + 1).tdiv 2 by omega) (by omega), Wn hh, implies_true, and_true]
  obtain ⟨n, hn⟩ : ∃ n, (x.hi - x.lo).toNat = n + 1 := ⟨(x.hi - x.lo).toNat - 1, by omega⟩
  have key := i4 (n + 1) (by omega)
  unfold upL at key
  rw [decide_eq_true hl] at key
  generalize hM : x.lo + (x.hi - x.lo + 1).tdiv 2 = M at *
  refine ⟨by simp, ⟨h, by omega, by omega⟩, λ hp => ⟨⟨M, x.hi⟩, ⟨rfl, rfl⟩, ⟨(by omega : (DI a.w a.k).lo - 1 <= M), m2, i3, λ m hm => ?_⟩, (by omega : (x.hi - M).toNat < (x.hi - x.lo).toNat)⟩, λ hp => ⟨⟨x.lo, M - 1⟩, ⟨rfl, (LS (n := M - 1) (by omega) (by omega)).symm⟩, ⟨i1, (by omega : x.lo <= M - 1), (by omega : M - 1 <= (DI a.w a.k).hi), λ m hm => ?_⟩, (by omega : (M - 1 - x.lo).toNat < (x.hi - x.lo).toNat)⟩⟩
  ·rw [key, show upPO xB a M = true from hp]
   exact TB n m M x.hi m2 (by omega) hm
  ·rw [key, show upPO xB a M = false from hp]
   exact TB n m x.lo (M - 1) (by omega) (by omega) hm
 ·rw [i4 0 (by omega)]; rfl
theorem BJQ : AL Try.prog J5 ((cL xB Oq).spec (dUpO Oq)) := Ih (cL xB Oq) (BIS xB Oq ((Uo xB).spec dBnO)) [] [] AKU (λ _ => by kernel_rfl) (λ _ => AB wG (AB zC (AB CCU AF))) (λ (a : BkI) h => by
 have h : XS a.w.g a.w.b /\ 0 <= a.k /\ a.k <= a.w.b.length /\ a.w.has a.k = true := h
 exact CCY a h.1 ⟨h.2.1, h.2.2.1⟩ h.2.2.2) (λ _ => Jf rfl rfl) _
end Go.Bal
