/- Package chart, with the reference: whole. -/
import Derived.Test.YtdbjalgfomknhaaGreatChZm0
import Derived.Test.YtdbjalgfomknhaaGreatChO
set_option linter.unusedVariables false
set_option linter.unusedSimpArgs false
namespace Go.Bal
open Go Go.Sym Go.Proofs
structure CFT where
 c : Cht
 f : Int
 t : Int
def dCFT : List AVal -> Heap -> Option (CFT × List (Nat × Nat) × List Nat)
 | [x, .d f, .d t], H => match kV x H with
  | some (c, e) => some (⟨c, HJ f, HJ t⟩, [], e)
  | none => none
 | _, _ => none
def whP (x : CFT) (a b : Nat) : Bool := bif bif bif decide ((gD x.c.ns a).mi >= x.f) then decide ((gD x.c.ns a).mi < (gD x.c.ns b).mi) else false then decide ((gD x.c.ns b).mi < x.t) else false then QT x.c ⟨(a : Int), (b : Int)⟩ else false
def whR (x : CFT) (a n : Nat) : Bool := WZ (λ b => !whP x a b) n
def Rq (x : CFT) : Bool := WZ (λ a => whR x a x.c.ns.length) x.c.ns.length
def zw2 (x : CFT) : Shape := { α := Nat, dflt := 0, T := λ k => ⟨[(1, .int x.f), (2, .int x.t), (3, .bptr 201 0), (7, .int k)], [(201, .live (gI x.c))]⟩, inv := λ k => k <= x.c.ns.length /\ WZ (λ a => whR x a x.c.ns.length) k = true, meas := λ k => x.c.ns.length - k, first := [(201, 1000)] }
def zw5 (x : CFT) (m : Nat) : Shape := { α := IJ, dflt := default, T := λ s => ⟨[(1, .int x.f), (2, .int x.t), (3, .bptr 201 0), (7, .int s.i), (8, .int s.j)], [(201, .live (gI x.c))]⟩, inv := λ s => (s.i < x.c.ns.length /\ x.c.ns.length - s.i = m /\ s.j <= x.c.ns.length) /\ WZ (λ a => whR x a x.c.ns.length) s.i = true /\ whR x s.i s.j = true, meas := λ s => x.c.ns.length - s.j }
def C_zWh : Ctr := { α := CFT, xs := λ x => [.d (Ak x.c), .int x.f, .int x.t], val := λ x => .bool (Rq x), keep := λ _ => [], pre := λ x => [AI x.c = 0] }
def BTC (x : CFT) : Ann := { ann 63 [(nM, C_zLt.spec dCP)] with loops := λ id => if id = 2 then some [zw2 x] else none, inner := λ gs id => if id = 5 then some [zw5 x (gs.getD 0 0)] else none }
def BUG (x : CFT) : Prop := CF Try.prog (BTC x) AHH (AH AHH) (C_zWh.xs x) (AB []) (.bool (Rq x)) [] [] []
abbrev jZ:=CFT.f
abbrev U1:=CFT.t
abbrev Hy:=CFT.c
abbrev OG a:=AO (Hy a)
abbrev lR a b:=BW (Hy a) b
abbrev Zf a b:=lR a (CR b)
attribute [go_sem] jZ U1 Hy OG lR Zf
theorem BUR (x : CFT) : (BUG x) = (FV (λ i=>CE (AE (jZ x)) (AD (AE (U1 x)) (BZ i) (DG (Hy x))) (EU i (OG x)) (CS (WZ (λ j=>whR x j (OG x)) i))) (λ i=>OS (Lp i (OG x) (WZ (λ j=>whR x j (OG x)) i)) i (OG x) (Hl (λ j=>EG (AE (jZ x)) (AE (U1 x)) (Jy j i) (BZ (EE j)) (DG (Hy x)) (AD (KM (CR j) (OG x) (YY (OG x) j i) (ZZ j (OG x))) (CS (WZ (λ k=>whR x k (OG x)) (CR j))) (CS (whR x (CR j) (EE j)))))) (iR (λ j=>IR (AD (KM (CR j) (OG x) (YY (OG x) j i) (ZZ j (OG x))) (CS (WZ (λ k=>whR x k (OG x)) (CR j))) (CS (whR x (CR j) (EE j)))) (OU j) (BE (OG x)) (AG (HF (SD j) (OG x)) (HX (jA (Zf x j) (jZ x)) (SD j) (OG x)) (HX (jA (Zf x j) (jZ x)) (OU j) (OG x)) (HX (LJ (jA (Zf x j) (jZ x)) (JL (Zf x j) (lR x (EE j)))) (OU j) (OG x)) (HO (YI (jA (Zf x j) (jZ x)) (JL (Zf x j) (lR x (EE j))) (JL (lR x (EE j)) (U1 x))) (AG (AJ (Hy x)) (AL (Hy x)) (AM (Hy x)) (AN (Hy x)) (GU (AQ (Hy x)) (BP (Hy x)) (λ k=>BH k (Hy x)) (BN (Hy x)) (FN (Hy x)) (AS (QW (lT (lM (SD j) (kE (OU j))))) (SD j)) (AS (QS (lT (lM (SD j) (kE (OU j))))) (OU j)) (Rv (Hy x)) (CS (Ht (CU (Hy x)) (lT (lM (SD j) (kE (OU j)))))))))) (EC (LJ (YI (jA (Zf x j) (jZ x)) (JL (Zf x j) (lR x (EE j))) (JL (lR x (EE j)) (U1 x))) (Xw (CU (Hy x)) (lT (lM (SD j) (kE (OU j)))))) (GR (Rq x)) (Hl (λ k=>DW (AG (AE (jZ x)) (AE (U1 x)) (Gk k j) (BR (EE k) (EE j)) (DG (Hy x))) (AD (KM (CR k) (OG x) (YY (OG x) k i) (ZZ k (OG x))) (CS (WZ (λ l=>whR x l (OG x)) (CR k))) (CS (whR x (CR k) (EE k)))) (OG x) (EE k) (EE j)))) (HA (λ k=>GM (AE (jZ x)) (AD (AE (U1 x)) (BR k (CR j)) (DG (Hy x))) (Lp k (OG x) (WZ (λ l=>whR x l (OG x)) k)) (OG x) k i)))) (CS (Rq x)))) := by kernel_rfl
theorem BPF {c : Cht} (h0 : AI c = 0) {a b : Nat} (ha : a < c.ns.length) (hb : b < c.ns.length) (h : (gD c.ns a).mi < (gD c.ns b).mi) : PD c ⟨(a : Int), (b : Int)⟩ = true := by
 have hn := (MA.1 h0).n
 unfold PD Ym nA nB wr
 rw [TC (by omega) (by omega)]
 show (bif TD (a : Int) 0 ((c.ns.length : Int) - 1) && TD (b : Int) 0 ((c.ns.length : Int) - 1) then bif !((a : Int) == (b : Int) && (b : Int) == (a : Int)) then decide ((gD c.ns (a : Int).toNat).mi < (gD c.ns (b : Int).toNat).mi) else false else false) = true
 rw [KJ.2 (by omega), KJ.2 (by omega), Int.toNat_natCast, Int.toNat_natCast, decide_eq_true h]
 have : ¬ (a : Int) = (b : Int) := λ e => by
  have : a = b := by omega
  subst this; exact absurd h (Int.lt_irrefl _)
 rw [show ((a : Int) == (b : Int) && (b : Int) == (a : Int)) = false by simp; omega]; rfl
theorem CAB (x : CFT) (h0 : AI x.c = 0) : BUG x := by
 have hn := (MA.1 h0).n
 have hd : ∀ a b : Int, dPr (.agg [.v (.int .i64 a), .v (.int .i64 b)]) = ⟨a, b⟩ := λ _ _ => rfl
 rw [BUR]<;> delta JH zU jA Hi BI BF EN MM ON EB EA BY AF CN CO AS BE EU EC JL FY MN NT LS ET GW FK HV IB HK GV FU HC DV FW EY LD HA LC QW QS Ht Xw Hl CR EE iR ASO jZ U1 Hy AD CI AU FT GN AG GK AZ AX AE FA BM AW JP BL BD AO AR DD BA BK II JQ BO BJ CX HI BW BV AJ AQ JD AV EH FC NH CK AN AL GH JE JO HG FX FQ FO MR AM IV FD HE DK ID DR ES BX CG DO IW HS DX HH JA CE EZ CS EV rA CU FH HQ DZ EW DU JB ED HO BR FZ GI BN GA GC EO HD PF LG IM IH SX MU IS LB GU GR QV LJ HF BP MQ EI LV BH BG Lw DI OU HZ IR BZ OG DW IQ NP GM EG HX FV DG KM lM JF lT FN SD ZZ YI YY Jy kE lR Gk OS Zf Lp Rv; simp only [CC, eq_self, implies_true, forall_const, CL, hd]
 refine ⟨⟨0, rfl, Nat.zero_le _, rfl⟩, λ k ⟨k1, k2⟩ => ⟨λ hlt => ⟨⟨⟨k, 0⟩, ⟨rfl, rfl⟩, ⟨by show k < _; omega, rfl, Nat.zero_le _⟩, k2, rfl⟩, λ s ⟨⟨s1, s2, s3⟩, s4, s5⟩ => ⟨λ hj => ?_, λ hj => ?_⟩⟩, λ hge => ?_⟩⟩
 ·have hj : s.j < x.c.ns.length := by omega
  refine ⟨⟨by omega, λ _ => by omega, λ _ => by omega, λ _ => by omega, λ hc => ⟨h0, ?_⟩⟩, λ hb => ?_, λ hb => ⟨⟨s.i, s.j + 1⟩, ⟨rfl, (HL (by omega)).symm⟩, ⟨⟨s1, s2, by show s.j + 1 <= _; omega⟩, s4, ?_⟩, by show x.c.ns.length - (s.j + 1) < x.c.ns.length - s.j; omega⟩⟩
  ·refine BPF h0 s1 hj ?_
   by_cases q1 : (gD x.c.ns s.i).mi >= x.f
   ·by_cases q2 : (gD x.c.ns s.i).mi < (gD x.c.ns s.j).mi
    ·exact q2
    ·rw [decide_eq_true q1, decide_eq_false q2] at hc; cases hc
   ·rw [decide_eq_false q1] at hc; cases hc
  ·have e : whP x s.i s.j = true := hb
   have e1 : whR x s.i x.c.ns.length = false := Tq hj (by show (!whP x s.i s.j) = false; rw [e]; rfl)
   exact Tq s1 e1
  ·have e : whP x s.i s.j = false := hb
   show (WZ (λ b => !whP x s.i b) s.j && !whP x s.i s.j) = true
   rw [e, show WZ (λ b => !whP x s.i b) s.j = true from s5]; rfl
 ·have hj : s.j = x.c.ns.length := by omega
  refine ⟨s.i + 1, (HL (by omega)).symm, ⟨by omega, ?_⟩, by omega⟩
  show (WZ (λ a => whR x a x.c.ns.length) s.i && whR x s.i x.c.ns.length) = true
  rw [s4, <- hj, s5]; rfl
 ·obtain rfl : k = x.c.ns.length := by omega
  exact k2
theorem BXK : AK Try.prog AFJ (C_zWh.spec dCFT) := VV C_zWh BTC [] [] BCF (λ _ => by kernel_rfl) (λ _ => AA AUJ AC) (λ x h => CAB x h) (λ _ => WY rfl rfl) _
end Go.Bal

namespace Go.Bal
open Go Go.Sym Go.Proofs
def eM (c : Cht) : List Int := ME (c.ms.length - 1) λ i => (i : Int)
def xV (c : Cht) (P : Nat -> Int) (f : Nat) : Nat -> Int
 | 0 => wr ((c.ms.length : Int) + 1)
 | k + 1 => bif (bif Rq ⟨c, (f : Int), ((f + 1 + k : Nat) : Int)⟩ then decide (wr (P (f + 1 + k) + 1) < xV c P f k) else false) then wr (P (f + 1 + k) + 1) else xV c P f k
def gA (c : Cht) : Nat -> Nat -> Int
 | 0, _ => 0
 | j + 1, i => bif decide (i = c.ms.length - 1 - j) then xV c (gA c j) (c.ms.length - 1 - j) (j + 1) else gA c j i
def cE (c : Cht) : Int × Int := bif AI c == 0 then bif ER ⟨c, eM c⟩ == 0 then (wr (gA c c.ms.length 0 - 1), 0) else (0, 6) else (0, AI c)
def zx6n (c : Cht) : Shape := { α := One, dflt := default, T := λ _ => ⟨[(1, .bptr 201 0), (5, .d Ou), (6, .int 0)], [(201, .live (gI c))]⟩, inv := λ _ => AI c = 0, meas := λ _ => 50, first := [(201, 1000)] }
def zx6o (c : Cht) : Shape := { α := Nat, dflt := 0, T := λ k => ⟨[(1, .bptr 201 0), (5, .own 202 1 0 k), (6, .int k)], [(201, .live (gI c)), (202, .live (.row 1 k λ i => UH (i : Int)))]⟩, inv := λ k => AI c = 0 /\ 1 <= k /\ k <= c.ms.length - 1, meas := λ k => 40 - k, again := [(202, 9048)] }
def zx9 (c : Cht) : Shape := { α := One, dflt := default, T := λ _ => ⟨[(1, .bptr 201 0), (5, .d (PH (eM c)))], [(201, .live (gI c))]⟩, inv := λ _ => AI c = 0, meas := λ _ => 0, ffz := [202] }
def zxR (c : Cht) (f : Nat -> Int) : List (Nat × HCell) := [(201, .live (gI c)), (203, .live (.row 1 (c.ms.length + 1) λ i => UH (f i)))]
def zx14 (c : Cht) : Shape := { α := Nat, dflt := 0, T := λ j => ⟨[(1, .bptr 201 0), (9, .own 203 1 0 (c.ms.length + 1)), (10, .int ((c.ms.length : Int) - 1 - j))], zxR c (gA c j)⟩, inv := λ j => (AI c = 0 /\ ER ⟨c, eM c⟩ = 0) /\ j <= c.ms.length, meas := λ j => c.ms.length - j, first := [(203, 13064)] }
def zx18 (c : Cht) (m : Nat) : Shape := { α := IJ, dflt := default, T := λ s => ⟨[(1, .bptr 201 0), (9, .own 203 1 0 (c.ms.length + 1)), (10, .int ((c.ms.length : Int) - 1 - s.i)), (11, .int ((c.ms.length : Int) - s.i + s.j))], zxR c λ q => bif decide (q = c.ms.length - 1 - s.i) then xV c (gA c s.i) (c.ms.length - 1 - s.i) s.j else gA c s.i q⟩, inv := λ s => (AI c = 0 /\ ER ⟨c, eM c⟩ = 0) /\ s.i < c.ms.length /\ c.ms.length - s.i = m /\ s.j <= s.i + 1, meas := λ s => 50 - s.j }
def C_zFw : Ctr := { α := Cht, xs := λ c => [.d (Ak c)], val := λ c => .tup [.int (cE c).1, .int (cE c).2], keep := λ _ => [], pre := λ c => [c.ms.length < 4611686018427387904 /\ c.ns.length < 4611686018427387904] }
def BQE (c : Cht) : Ann := { ann 94 [(Ph, C_Check.spec aM), (xC, C_Times.spec dCZ), (AFJ, C_zWh.spec dCFT)] with mt := λ id => id == 8, loops := λ id => if id = 6 then some [zx6n c, zx6o c] else if id = 14 then some [zx14 c] else none, inner := λ gs id => if id = 18 then some [zx18 c (gs.getD 0 0)] else none, cut := λ id => if id = 9 then some [zx9 c] else none }
def BRF (c : Cht) : Prop := CF Try.prog (BQE c) zW (AH zW) (C_zFw.xs c) (AB []) (.tup [.int (cE c).1, .int (cE c).2]) [] [] []
abbrev W8:=@Prod.snd Int Int
abbrev iU:=eM
abbrev AHO:=CFT.mk
abbrev Ve a:=(@Prod.fst Int Int) (cE a)
abbrev UQ a:=JR (AU a)
abbrev dD a b:=IM (Cx (Bq a (iU b)))
abbrev Xf a b c:=gA a (CR b) c
abbrev Wc a b c d:=xV a b c (EE d)
abbrev WO a b:=rA (mU a) b
abbrev Xl a b:=gA a (CR b)
abbrev Ue a b:=ASL a 1 b
abbrev VG a b:=Ue a (CR b)
abbrev dL a:=BM (UQ a)
abbrev TU a b:=NT (AHM (KF a) (CR b)) (OU b)
attribute [go_sem] W8 iU AHO Ve UQ dD Xf Wc WO Xl Ue VG dL TU
theorem BUV (c : Cht) : (BRF c) = (SA c c (RP c) (PV c) (ED (XN c) (IM (Ve c)) (AS (W8 (cE c)) (SQ c)) (And (ZB (GP AT FG DJ (DG c) (LB c)) (IR (LB c) (DO 0) (KF c) (RI (Ec (MI 0)) (Vz RD 1) VL VB 8) (HA (λ i=>ZH (Je (MI i) (Kh i) (AJ c) c c (AF (λ j=>AX j i (BZ j)))) (AD (LB c) (KT i) (EU i (mU c))) (JB 40 i 50))) (TE (λ i=>And (YO (Vx (iU c)) (DG c)) (LB c)))) (λ i=>IR (AD (LB c) (KT i) (EU i (mU c))) (DZ i) (KF c) (RI (Vz (BM i) i) (Vz RD 1) UP (VA i) (Ip i 8)) (HA (λ j=>WL (Je (SJ j i) (BR j i) (AJ c) c c (AF (λ k=>AX k j (HH k (KX k i (BE k) (BE i)))))) (AD (LB c) (KT j) (EU j (mU c))) 40 j i)) (TE (λ j=>GP (LL (iU c) i) (OF i) (AF (λ k=>ACL k (iU c) k (BE (CM k)))) (DG c) (LB c))))) (Lo (LB c) (BC (AJ c) (AG (AL c) (AM c) (AN c) (AQ c) (CW (BP c) (λ i=>BH i c) (BN c) (FN c) (DY (Ag (iU c)) (iU c)) (VI (Ag (iU c)) (iU c)) (RP c) (PV c) (RR (Ag (iU c))))) (ED (MH (Ua (Bq (CU c) (Ag (iU c))))) (IM (Ve c)) (Gb (W8 (cE c))) (CE (BX (DZ (AU c))) (AD (AE (DZ (AU c))) (FY (DZ (AU c)) 9223372036854775807) (FY (Bu (BE 8) (DZ (AU c))) 281474976710656)) (HA (λ i=>ZH (Je (BY (UQ c) (XD (AU c))) (Dt (Ue c i) (KF c)) (AJ c) c c (AF (λ j=>AX j (UQ c) (IM (gA c i j))))) (And (LB c) (dD c c)) (Cb i c))) (AF (λ i=>TL (BC (LB c) (dD c c) (Cb i c)) (Es (Ue c i)) (AD (KQ (Ue c i) (UQ c) (QI (Ue c i) (UQ c))) (Hl (λ j=>AG (DT AT (dL c) (AS (VG c j) (Ue c i)) (AS (TU c j) (DO (Ue c i))) (AJ c) (AL c) (ZO c (dL c) (AF (λ k=>AX k (UQ c) (AS (SY k (WO c j) (Wc c (Xl c j) (WO c j) j) (Xf c j k)) (RS k (Ue c i) (DZ (AU c)) (gA c i k))))))) (And (LB c) (dD c c)) (Ww j (AU c)) (YY (AU c) j i) (ZZ j (JR (CR j))))) (iR (λ j=>TL (BC (LB c) (dD c c) (KM (CR j) (AU c) (YY (AU c) j i) (ZZ j (JR (CR j))))) (hd7 (TU c j) (KF c)) (BC (AJ c) (DT (AL c) (AM c) (AN c) (AQ c) (BP c) (HM c) (CW (BN c) (λ k=>BG k c) (AE (VG c j)) (AE (TU c j)) (Rv c) (HX (Rq (AHO (CU c) (VG c j) (TU c j))) (TU c j) (UQ c)) (HO (Rq (AHO (CU c) (VG c j) (TU c j))) (QI (TU c j) (UQ c))) (HX (Rq (AHO (CU c) (VG c j) (TU c j))) (VG c j) (UQ c)) (HO (Rq (AHO (CU c) (VG c j) (TU c j))) (QI (VG c j) (UQ c))))) (ED (LJ (Rq (AHO (CU c) (VG c j) (TU c j))) (JL (DO (SY (LA (TU c j)) (WO c j) (Wc c (Xl c j) (WO c j) j) (Xf c j (LA (TU c j))))) (SY (LA (VG c j)) (WO c j) (Wc c (Xl c j) (WO c j) j) (Xf c j (LA (VG c j)))))) (KQ (TU c j) (UQ c) (KM (LA (TU c j)) (UQ c) (HF (VG c j) (UQ c)) (QI (VG c j) (UQ c)))) (Hl (λ k=>DW (DT AT (dL c) (AS (VG c k) (VG c j)) (AS (TU c k) (DO (TU c j))) (AJ c) (AL c) (ZO c (dL c) (AF (λ l=>AX l (UQ c) (AS (SY l (WO c k) (Wc c (Xl c k) (WO c k) k) (Xf c k l)) (RS l (VG c j) (DO (SY (LA (TU c j)) (WO c j) (Wc c (Xl c j) (WO c j) j) (Xf c j (LA (TU c j))))) (SY l (WO c j) (Wc c (Xl c j) (WO c j) j) (Xf c j l)))))))) (BC (LB c) (dD c c) (KM (CR k) (AU c) (YY (AU c) k i) (ZZ k (JR (CR k))))) 50 (EE k) (EE j))) (Hl (λ k=>DW (DT AT (dL c) (AS (VG c k) (VG c j)) (AS (TU c k) (DO (TU c j))) (AJ c) (AL c) (ZO c (dL c) (AF (λ l=>AX l (UQ c) (AS (SY l (WO c k) (Wc c (Xl c k) (WO c k) k) (Xf c k l)) (SY l (WO c j) (Wc c (Xl c j) (WO c j) j) (Xf c j l))))))) (BC (LB c) (dD c c) (KM (CR k) (AU c) (YY (AU c) k i) (ZZ k (JR (CR k))))) 50 (EE k) (EE j))))) (HA (λ k=>WL (Je (dL c) (Dt (Ue c k) (VG c j)) (AJ c) c c (AF (λ l=>AX l (UQ c) (AS (gA c k l) (SY l (WO c j) (Wc c (Xl c j) (WO c j) j) (Xf c j l)))))) (BC (LB c) (dD c c) (Cb k c)) (AU c) k i))))) (AD (KQ 0 (UQ c) (QI 0 (UQ c))) (Dt (Ve c) (gA c i (LA 0))) (IM (W8 (cE c))))))))))))) := by kernel_rfl
theorem CBB (c : Cht) (h : c.ms.length < 4611686018427387904 /\ c.ns.length < 4611686018427387904) : BRF c := by
 have w01 : IntKind.i64.wrap ((0 : Int) + 1) = 1 := rfl
 rw [BUV]<;> delta JH zU jA hd7 Hi BI BF EN MM ON Ep EB EA BY AF CN CO AS BE XB EU EC JL FY MN NT LS ET GW FK HV IB HK GV FU HC DV FW EY LD HA FL LC EP RX SI GZ Ai CJ DN cQ RU Bu TE Yb Ho Bq Cx Hl CR EE iR AFY W8 iU AHO AD CI AU FT GN AG GK AZ AX AE FA BM GQ Sb YO AW JP BL BD AO AR DD BA VR BK II JQ BO BJ CX HI BW BV AJ AQ JD AV EH FC Ag NH CK AN AL GH JE JO HG FX FQ FO MR AM IV FD HE DK ID DR GO CM ES BX CG DO OX BC IW HS DX JR HH JA CE CW PM EZ LA CS EV LZ EQ rA CU FH HQ DZ KF EW AT DU LL JB ED HR HO BR FZ GI BN GA GC EO HD AHM QR PF LG IM QP DY ASA SX MU IS MW UD ASL RV SY DT LB DJ Sf QV Fi LJ XD HF BP MQ ACL EI SK GF LV BH BG LM WR Lw DI OU IR mU BZ JX KT DW OQ HB IQ GG YF GM UQ HX FG DG Ch IN UO RD Ue KX KM SQ KS RI TL HM GP TP RR MI VG FN ZZ MH SJ PV QI KQ YY OF ZO TU WO WT eC RS Es RP Gd Je Ec Pw Cc Lo UP VI Ww Ip Cb VB VA VL XN Dt Ft YW Xl Ve Xf Ua XV SA ZB dL ZH Wc Gb dD Rv WL Vx Kh Vz; simp only [CC, eq_self, implies_true, forall_const, CL, BEB, w01]
 refine ⟨h, λ q => ?_, λ q => ?_⟩
 ·have q' : (AI c == 0) = false := by simpa using q
  unfold cE; rw [q']; exact ⟨rfl, rfl⟩
 have h0 : AI c = 0 := by simpa using q
 obtain ⟨m1, m2⟩ := (MA.1 h0).m
 have zl : (eM c).length = c.ms.length - 1 := rng_length _ _
 refine ⟨⟨⟨default, h0⟩, λ _ => ⟨λ hlt => ⟨⟨by omega, by omega, by omega, by omega, by omega⟩, 1, ⟨rfl, rfl, rfl, λ i hi => by omega⟩, ⟨h0, by omega, by omega⟩, by omega⟩, λ hge => ⟨default, by omega, h0⟩⟩, λ k ⟨_, k1, k2⟩ => ?_⟩, λ _ => ⟨⟨h.1, h.2, by omega⟩, λ hr => ?_, λ hr => ?_⟩⟩
 ·have wk : IntKind.i64.wrap ((k : Int) + 1) = ((k + 1 : Nat) : Int) := HL (by omega)
  rw [wk]
  refine ⟨λ hlt => ⟨⟨by omega, by omega, by omega, by omega⟩, k + 1, ⟨rfl, rfl, rfl, λ i hi => ?_⟩, ⟨h0, by omega, by omega⟩, by omega⟩, λ hge => ⟨default, ⟨by omega, by omega, λ j hj => KL _ _ _ (by omega)⟩, h0⟩⟩
  by_cases e : i < k
  ·rw [decide_eq_true e]; rfl
  ·rw [decide_eq_false e]; show (i : Int) = (k : Int); omega
 ·have e : (ER ⟨c, eM c⟩ == 0) = false := by simpa using hr
  unfold cE; rw [h0, e]; exact ⟨rfl, rfl⟩
 have r0 : ER ⟨c, eM c⟩ = 0 := by simpa using hr
 have wn : IntKind.i64.wrap ((c.ms.length : Int) + 1) = (c.ms.length : Int) + 1 := TC (by omega) (by omega)
 have wn2 : IntKind.i64.wrap ((c.ms.length : Int) - 1) = (c.ms.length : Int) - 1 := TC (by omega) (by omega)
 simp only [wn, wn2]
 refine ⟨⟨by omega, by omega, by omega⟩, ⟨0, ⟨by omega, by omega, by omega, λ i _ => rfl⟩, ⟨h0, r0⟩, Nat.zero_le _⟩, λ j ⟨_, j1⟩ => ⟨λ hlt => ⟨⟨by omega, by omega⟩, ⟨⟨j, 0⟩, ⟨rfl, ?_, λ i hi => ?_⟩, ⟨h0, r0⟩, by show j < _; omega, rfl, Nat.zero_le _⟩, λ s ⟨_, s1, s2, s3⟩ => ?_⟩, λ hge => ?_⟩⟩
 ·rw [TC (by omega) (by omega)]
  show (c.ms.length : Int) - (j : Int) + ((0 : Nat) : Int) = _
  omega
 ·show (bif decide (i = c.ms.length - 1 - j) then wr ((c.ms.length : Int) + 1) else gA c j i) = _
  unfold wr
  rw [wn, show ((c.ms.length : Int) - 1 - (j : Int)).toNat = c.ms.length - 1 - j by omega]
 ·have i1 : ((c.ms.length : Int) - 1 - (s.i : Int)).toNat = c.ms.length - 1 - s.i := by omega
  have i2 : ((c.ms.length : Int) - (s.i : Int) + (s.j : Int)).toNat = c.ms.length - s.i + s.j := by omega
  have i3 : decide (c.ms.length - s.i + s.j = c.ms.length - 1 - s.i) = false := decide_eq_false (by omega)
  have i4 : decide (c.ms.length - 1 - s.i = c.ms.length - 1 - s.i) = true := decide_eq_true rfl
  have dv : xV c (gA c s.i) (c.ms.length - 1 - s.i) (s.j + 1) = bif (bif Rq ⟨c, (c.ms.length : Int) - 1 - (s.i : Int), (c.ms.length : Int) - (s.i : Int) + (s.j : Int)⟩ then decide (IntKind.i64.wrap (gA c s.i (c.ms.length - s.i + s.j) + 1) < xV c (gA c s.i) (c.ms.length - 1 - s.i) s.j) else false) then IntKind.i64.wrap (gA c s.i (c.ms.length - s.i + s.j) + 1) else xV c (gA c s.i) (c.ms.length - 1 - s.i) s.j := by
   have a1 : ((c.ms.length - 1 - s.i : Nat) : Int) = (c.ms.length : Int) - 1 - (s.i : Int) := by omega
   have a2 : ((c.ms.length - 1 - s.i + 1 + s.j : Nat) : Int) = (c.ms.length : Int) - (s.i : Int) + (s.j : Int) := by omega
   have a3 : c.ms.length - 1 - s.i + 1 + s.j = c.ms.length - s.i + s.j := by omega
   show (bif (bif Rq ⟨c, ((c.ms.length - 1 - s.i : Nat) : Int), ((c.ms.length - 1 - s.i + 1 + s.j : Nat) : Int)⟩ then decide (wr (gA c s.i (c.ms.length - 1 - s.i + 1 + s.j) + 1) < _) else false) then wr (gA c s.i (c.ms.length - 1 - s.i + 1 + s.j) + 1) else _) = _
   rw [a1, a2, a3]; rfl
  simp only [i1, i2, i3, i4, decide_true, cond_true, cond_false]
  refine ⟨λ hk => ⟨⟨h0, λ _ => by omega, λ _ => by omega, λ _ => by omega, λ _ => by omega⟩, λ hc => ⟨⟨by omega, by omega, by omega, by omega⟩, ⟨s.i, s.j + 1⟩, ⟨rfl, ?_, λ i hi => ?_⟩, ⟨⟨h0, r0⟩, s1, s2, by show s.j + 1 <= s.i + 1; omega⟩, by show 50 - (s.j + 1) < 50 - s.j; omega⟩, λ hc => ⟨⟨s.i, s.j + 1⟩, ⟨rfl, ?_, λ i hi => ?_⟩, ⟨⟨h0, r0⟩, s1, s2, by show s.j + 1 <= s.i + 1; omega⟩, by show 50 - (s.j + 1) < 50 - s.j; omega⟩⟩, λ hk => ⟨s.i + 1, ⟨?_, λ i hi => ?_⟩, ⟨⟨h0, r0⟩, by omega⟩, by omega⟩⟩
  ·rw [TC (by omega) (by omega)]
   show (c.ms.length : Int) - (s.i : Int) + ((s.j + 1 : Nat) : Int) = _
   omega
  ·show (bif decide (i = c.ms.length - 1 - s.i) then xV c (gA c s.i) (c.ms.length - 1 - s.i) (s.j + 1) else gA c s.i i) = _
   rw [dv, hc]
   cases decide (i = c.ms.length - 1 - s.i) <;> rfl
  ·rw [TC (by omega) (by omega)]
   show (c.ms.length : Int) - (s.i : Int) + ((s.j + 1 : Nat) : Int) = _
   omega
  ·show (bif decide (i = c.ms.length - 1 - s.i) then xV c (gA c s.i) (c.ms.length - 1 - s.i) (s.j + 1) else gA c s.i i) = _
   rw [dv, hc]; rfl
  ·rw [TC (by omega) (by omega)]; omega
  ·have e : s.j = s.i + 1 := by omega
   rw [e]; rfl
 ·obtain rfl : j = c.ms.length := by omega
  have e : cE c = (wr (gA c c.ms.length 0 - 1), 0) := by unfold cE; rw [h0, r0]; rfl
  rw [e]
  refine ⟨⟨by omega, ?_⟩, rfl, rfl⟩
  show (0 : Int).toNat < _
  omega
theorem BWH : AK Try.prog D2 (C_zFw.spec aM) := VV C_zFw BQE [] [] AWO (λ _ => by kernel_rfl) (λ _ => AA bY (AA BAH (AA BXK AC))) (λ c h => CBB c h) (λ _ => WY rfl rfl) _
end Go.Bal
