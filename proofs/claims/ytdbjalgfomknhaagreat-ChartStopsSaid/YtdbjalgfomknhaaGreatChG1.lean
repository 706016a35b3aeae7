/- Package chart: the order of notes, fewer than 13. Turned from RatR. -/
import Derived.Test.YtdbjalgfomknhaaGreatChD3
set_option linter.unusedVariables false
set_option linter.unusedSimpArgs false
namespace Go.Bal
open Go Go.Sym Go.Proofs
def BFF (x : Int) : Prop := CF Try.prog (ann 6 []) AVS (AH AVS) (xI1 x) (AB []) (.bool false) [] [] []
abbrev zT a:=SI a a
attribute [go_sem] zT
theorem BOX (x : Int) : (BFF x) = (JH Hi (zT x)) := by kernel_rfl
def AUB := pD dI1 λ _ => .bool false
theorem BMQ : AK Try.prog ANJ AUB := Ki xI1 hI1 λ g _ => Pn (A := ann 6 []) (ren := []) (fz := []) BND (by kernel_rfl) AC (by
 show BFF g; rw [BOX]<;> delta JH Hi SI zT; simp)
def Hz (a b : Int) : Int := bif decide (a < b) then -1 else bif decide (a > b) then 1 else 0
def BGN (x : I2) : Prop := CF Try.prog (ann 20 [(ANJ, AUB)]) ATL (AH ATL) (xI2 x) (AB []) (.int (Hz x.a x.b)) [] [] []
theorem BPW (x : I2) : (BGN x) = (EC (JL (Ir x) (Cu x)) (AS (Hz (Ir x) (Cu x)) (-1)) (EC (XS (Ir x) (Cu x)) (AS (Hz (Ir x) (Cu x)) 1) (IM (Hz (Ir x) (Cu x))))) := by kernel_rfl
def BFA := pD dI2 λ x => .int (Hz x.a x.b)
theorem BNT : AK Try.prog AVR BFA := Ki xI2 hI2 λ g _ => Pn (A := ann 20 [(ANJ, AUB)]) (ren := []) (fz := []) BNQ (by kernel_rfl) (AA BMQ AC) (by
 show BGN g; rw [BPW]<;> delta AS EC JL XS Ir Cu IM; unfold Hz; by_cases h : g.a < g.b <;> by_cases h2 : g.b < g.a <;> simp [h, h2])
structure GAB where
 g : Cht
 a : Int
 b : Int
def CV (c : Cht) (x : Int) : Int := (gD c.ns x.toNat).mi
def bxG (c : Cht) : AObj := gI c
def dGAB : List AVal -> Heap -> Option (GAB × List (Nat × Nat) × List Nat)
 | [.d x, .d y, .bptr id _], H => match Hd H id with
  | some q => some (⟨q, HJ x, HJ y⟩, [(100, id)], [])
  | none => none
 | _, _ => none
def C_fw1 : Ctr := { ro := [100], α := GAB, xs := λ a => [.int a.a, .int a.b, .bptr 100 0], L := λ a => [(100, bxG a.g)], val := λ a => .int (Hz (CV a.g a.a) (CV a.g a.b)), keep := λ a => [(100, .live (bxG a.g))], pre := λ a => [(0 <= a.a /\ a.a < a.g.ns.length) /\ 0 <= a.b /\ a.b < a.g.ns.length] }
def BQM : Ann := { ann 19 [(AVR, BFA)] with E := [100] }
def BQU (a : GAB) : Prop := CF Try.prog BQM AWP (AH AWP) (C_fw1.xs a) (AB (C_fw1.L a)) (C_fw1.val a) (C_fw1.keep a) [] []
abbrev V0:=GAB.g
abbrev VS:=CV
abbrev PW a b:=BW a (EP b)
abbrev SB a b c:=Ei a b (BX c) c
attribute [go_sem] V0 VS PW SB
theorem BYK (a : GAB) : (BQU a) = (AD (SB (GAB.a a) (AO (V0 a)) (GAB.b a)) (AS (Hz (VS (V0 a) (GAB.a a)) (VS (V0 a) (GAB.b a))) (Hz (PW (V0 a) (GAB.a a)) (PW (V0 a) (GAB.b a)))) (DG (V0 a))) := by kernel_rfl
def rowI (l : List Int) : AObj := .row 1 l.length λ i => UH (gD l i)
def BHZ (n : Nat) (l : List Int) : AObj := .row 1 n λ i => UH (gD l i)
def swL (l : List Int) (j : Nat) : List Int := (l.set j (gD l (j + 1))).set (j + 1) (gD l j)
def yU (key : Int -> Int) : Nat -> List Int -> List Int
 | 0, l => l
 | j + 1, l => bif decide (Hz (key (gD l (j + 1))) (key (gD l j)) < 0) then yU key j (swL l j) else l
def stR (key : Int -> Int) : Nat -> Nat -> List Int -> List Int
 | 0, _, l => l
 | n + 1, i, l => stR key n (i + 1) (yU key i l)
def Xq (key : Int -> Int) (l : List Int) : List Int := stR key (l.length - 1) 1 l
structure GL where
 g : Cht
 l : List Int
 a : Int
 b : Int
structure IL2 where
 i : Nat
 l : List Int
 deriving Inhabited
structure IJL where
 i : Nat
 j : Nat
 l : List Int
 deriving Inhabited
def mE : AVal := .fn (.func WS) [] [.bptr 101 0]
def glK (a : GL) (l : List Int) : List (Nat × HCell) := [(100, .live (BHZ a.l.length l)), (101, .live (bxG a.g))]
def glOk (a : GL) : Prop := a.l.length < 1073741824 /\ ∀ i, i < a.l.length -> 0 <= gD a.l i /\ gD a.l i < a.g.ns.length
def AXL : List AVal -> Option Int
 | [.d (.v (.int .u64 a))] => some a
 | _ => none
def wG (a : Int) : List AVal := [.d (.v (.int .u64 a))]
def BAL (x : Int) : Prop := CF Try.prog (ann 25 []) mG (AH mG) (wG x) (AB []) .any [] [] []
abbrev Kk a b c d:=EC (jA a b) c d
abbrev iD a b:=MM IntKind.u8 (Wh a b)
attribute [go_sem] Kk iD
theorem BKY (x : Int) : (BAL x) = (Kk x 4294967296 (BC (BX 32) (Dp 32) (Kk (Hh x) 65536 (BC (BX 16) (Dp 16) (Kk (gB (Hh x) 16) 256 (CE (BX 8) (Dp 8) (HF (iD (Wh (Wh x 32) 16) 8) 256) FL) (KQ (iD (Wh x 32) 16) 256 FL))) (Kk (Hh x) 256 (CE (BX 8) (Dp 8) (HF (iD (Wh x 32) 8) 256) FL) (KQ (iD x 32) 256 FL)))) (Kk x 65536 (BC (BX 16) (Dp 16) (Kk (gB x 16) 256 (CE (BX 8) (Dp 8) (HF (iD (Wh x 16) 8) 256) FL) (KQ (iD x 16) 256 FL))) (Kk x 256 (CE (BX 8) (Dp 8) (HF (iD x 8) 256) FL) (KQ (MM IntKind.u8 x) 256 FL)))) := by kernel_rfl
def AKK := pD AXL (λ _ => .any) (λ x => [0 <= x /\ x <= 20])
def BSZ (x : Int) : Prop := CF Try.prog (ann 8 [(Vd, AKK)]) ACX (AH ACX) (wG x) (AB []) .any [] [] []
abbrev Gi a:=FY a 20
attribute [go_sem] Gi
theorem BVR (x : Int) : (BSZ x) = (BC (BX x) (Gi x) FL) := by kernel_rfl
def dGLt : List AVal -> Heap -> Option (GL × List (Nat × Nat) × List Nat)
 | [.own id _ _ n, .fn (.func f) [] [.bptr c _]], H => if f = WS then match H id, Hd H c with
  | .live (.row _ m r), some q => some (⟨q, ME n λ i => HJ (r i), 0, 0⟩, [(100, id), (101, c)], [])
  | _, _ => none else none
 | _, _ => none
def C_sort : Ctr := { ro := [101], α := GL, xs := λ a => [.own 100 1 0 a.l.length, mE], L := λ a => [(100, rowI a.l), (101, bxG a.g)], val := λ _ => .d (.tup []), keep := λ a => glK a (Xq (CV a.g) a.l), pre := λ a => [a.l.length <= 12 /\ glOk a] }
theorem AFA : AK Try.prog WS (C_fw1.spec dGAB) := VV C_fw1 (λ _ => BQM) [] [] BNK (λ _ => by kernel_rfl) (λ _ => AA BNT AC) (λ (a : GAB) h => by
 show BQU a; rw [BYK]<;> delta BI BF EN EB EA BY AF CN CO AS BE FY MN ET GW FK HV IB HK GV FU HC DV FW EY EP V0 VS AD CI AU AG AZ AX AE BM AW BL BD AO AR DD BA BK CX BW BV AJ AQ AV FC CK AN AL HG FX FQ AM HE DK ID DR BX CG HS DX CE HQ EO MU VQ EI LV DI IQ DG PW SP Ei SB; simp only [CC, eq_self, implies_true, forall_const]
 exact ⟨h, rfl⟩) (λ _ => WY rfl rfl) _
theorem AAG {l : List Int} {j i : Nat} {x : Int} (hj : j < l.length) : gD (l.set j x) i = bif decide (i = j) then x else gD l i := by
 unfold gD
 rw [List.getD_eq_getElem?_getD, List.getD_eq_getElem?_getD, List.getElem?_set]
 by_cases h : i = j
 ·subst h; simp [hj]
 ·simp [h, Ne.symm h]
theorem AGJ {l : List Int} {j i : Nat} (hj : j + 1 < l.length) : gD (swL l j) i = bif decide (i = j) then gD l (j + 1) else bif decide (i = j + 1) then gD l j else gD l i := by
 unfold swL
 rw [AAG (by simpa using hj), AAG (by omega)]
 by_cases h : i = j
 ·subst h; simp
 ·simp [h]
theorem lD (l : List Int) (j : Nat) : (swL l j).length = l.length := by simp [swL]
theorem AXY (xs : List AVal) (a : Int) (h : AXL xs = some a) : xs = wG a := by
 unfold AXL at h; split at h <;> cases h; rfl
theorem BTZ (n : Int) : 0 <= IntKind.u8.wrap n /\ IntKind.u8.wrap n < ((256 : Nat) : Int) := by
 have e : IntKind.u8.wrap n = n % 256 := by
  simp only [IntKind.wrap, IntKind.bits, IntKind.signed]
  simp
 rw [e]; exact ⟨Int.emod_nonneg _ (by omega), Int.emod_lt_of_pos _ (by omega)⟩
theorem BGG : AK Try.prog Vd AKK := Ki wG AXY λ x h => Pn (A := ann 25 []) (ren := []) (fz := []) AIU (by kernel_rfl) AC (by
 have h : 0 <= x /\ x <= 20 := h
 show BAL x; rw [BKY]<;> delta jA MM BE EC FY MN FL EP xW AD DK BX BC CE PF SX RV HF Wh gB KQ Cd Dp Hh Kk iD; simp only [CC, eq_self, implies_true, forall_const]
 exact ⟨λ h => by omega, λ _ => ⟨λ h => by omega, λ _ => ⟨λ h => by omega, λ _ => BTZ _⟩⟩⟩)
theorem BDR : AK Try.prog lK AKK := Ki wG AXY λ x h => Pn (A := ann 8 [(Vd, AKK)]) (ren := []) (fz := []) BAP (by kernel_rfl) (AA BGG AC) (by
 show BSZ x; rw [BVR]<;> delta FY FL BX BC Gi; exact ⟨h, trivial⟩)
end Go.Bal

namespace Go.Bal
open Go Go.Sym Go.Proofs
def nA (c : Cht) (p : Pr) : Nt := gD c.ns p.a.toNat
def nB (c : Cht) (p : Pr) : Nt := gD c.ns p.b.toNat
def Ym (n : Int) (p : Pr) : Bool := TD p.a 0 (wr (n - 1)) && TD p.b 0 (wr (n - 1))
def PD (c : Cht) (p : Pr) : Bool := bif Ym c.ns.length p then bif (!(p.a == p.b && p.b == p.a)) then decide ((nA c p).mi < (nB c p).mi) else false else false
def QT (c : Cht) (p : Pr) : Bool := decide (wr ((nB c p).t.lo - (nA c p).t.hi) > wr (c.p.hi * wr ((gD c.ms (nB c p).mi.toNat).pl - (gD c.ms (nA c p).mi.toNat).pl)))
structure DkP where
 w : Dk
 p : Pr
def dDkP : List AVal -> Heap -> Option (DkP × List (Nat × Nat) × List Nat)
 | [.bptr id _, .d p], H => match rH H id with
  | some (w, q) => some (⟨w, dPr p⟩, [(100, id), (101, q)], [])
  | none => none
 | _, _ => none
def C_pair : Ctr := { ro := [100, 101], α := DkP, xs := λ a => [.bptr 100 0, .d (ePr a.p)], L := λ a => dkL a.w, val := λ a => .bool (PD a.w.c a.p), keep := λ a => dkK a.w, pre := λ a => [a.w.c.ns.length < 1073741824 /\ True] }
def BFS : Ann := { ann 59 [(n_in, s_in)] with E := [100, 101] }
def BET (a : DkP) : Prop := CF Try.prog BFS AUW (AH AUW) (C_pair.xs a) (AB (C_pair.L a)) (C_pair.val a) (C_pair.keep a) [] []
abbrev QW:=Pr.a
abbrev QS:=Pr.b
abbrev Ht:=PD
abbrev VN a:=AP (DkP.w a)
abbrev ZF a:=QS (DkP.p a)
abbrev ZV a:=QW (DkP.p a)
abbrev vT a b c:=and (Ey a b) c
abbrev Kv a b c d:=not (vT a b (vT c d LC))
abbrev mS a:=LZ (KV (VN a))
attribute [go_sem] QW QS Ht VN ZF ZV vT Kv mS
theorem BPA (a : DkP) : (BET a) = (BC (HX (YI (TD (ZV a) 0 (mS a)) (TD (ZF a) 0 (mS a)) (Kv (ZV a) (ZF a) (ZF a) (ZV a))) (ZV a) (AO (VN a))) (HX (YI (TD (ZV a) 0 (mS a)) (TD (ZF a) 0 (mS a)) (Kv (ZV a) (ZF a) (ZF a) (ZV a))) (ZF a) (AO (VN a))) (DT (JH (Ht (VN a) (DkP.p a)) (LJ (YI (TD (ZV a) 0 (mS a)) (TD (ZF a) 0 (mS a)) (Kv (ZV a) (ZF a) (ZF a) (ZV a))) (JL (PW (VN a) (ZV a)) (PW (VN a) (ZF a))))) (AJ (VN a)) (AL (VN a)) (AM (VN a)) (AN (VN a)) (AQ (VN a)) (LR (VN a) (DkP.w a)))) := by kernel_rfl
theorem BAU : AK Try.prog ACF (C_pair.spec dDkP) := VV C_pair (λ _ => BFS) [] [] BPP (λ _ => by kernel_rfl) (λ _ => AA AJM AC) (λ (a : DkP) h => by
 have hn : a.w.c.ns.length < 1073741824 := (show a.w.c.ns.length < 1073741824 /\ True from h).1
 have w1 : IntKind.i64.wrap ((a.w.c.ns.length : Int) - 1) = (a.w.c.ns.length : Int) - 1 := TC (by omega) (by omega)
 show BET a; rw [BPA]<;> delta JH zU Hi BI BF EN MM ON Ep EB EA BY AF CN CO AS BE JL FY MN ET GW FK HV IB HK GV FU HC DV FW EY Ey LC EP QU EK OK AP LI QW QS Ht AD CI AU AG AZ AX AE BM GQ AW BL BD AO AR DD BA BK NC CX HI BW BV AJ AQ NU AV FC CK AN AL LH HG FX FQ AM HE DK ID DR GO BX OX BC PI HS DX CW BQ CS XE WP LZ PX HQ Fa HO GT NB EO VM PF IY SX MP PO DT VN LJ HF EI OE PR HX KV PW TA ZV vT YI LR ZF Kv mS; simp only [CC, eq_self, implies_true, forall_const]
 have e : (bif TD a.p.a 0 (IntKind.i64.wrap ((a.w.c.ns.length : Int) - 1)) then TD a.p.b 0 (IntKind.i64.wrap ((a.w.c.ns.length : Int) - 1)) else false) = Ym a.w.c.ns.length a.p := by
  unfold Ym wr; cases TD a.p.a 0 (IntKind.i64.wrap ((a.w.c.ns.length : Int) - 1)) <;> rfl
 rw [e]
 have hb : Ym a.w.c.ns.length a.p = true -> (0 <= a.p.a /\ a.p.a < a.w.c.ns.length) /\ 0 <= a.p.b /\ a.p.b < a.w.c.ns.length := λ h => by
  unfold Ym wr TD at h; rw [w1] at h
  simp only [Bool.and_eq_true, decide_eq_true_eq] at h; omega
 cases hq : Ym a.w.c.ns.length a.p with
 | false =>
  refine ⟨⟨(λ h => by cases h), (λ h => by cases h)⟩, ?_⟩
  unfold PD; rw [hq]; rfl
 | true =>
  refine ⟨⟨λ _ => (hb hq).1, λ _ => (hb hq).2⟩, ?_⟩
  unfold PD; rw [hq]
  simp only [cond_true, Bool.and_true]
  rfl) (λ _ => WY rfl rfl) _
def C_late : Ctr := { ro := [100, 101], α := DkP, xs := λ a => [.bptr 100 0, .d (ePr a.p)], L := λ a => dkL a.w, val := λ a => .bool (QT a.w.c a.p), keep := λ a => dkK a.w, pre := λ a => [((0 <= a.p.a /\ a.p.a < a.w.c.ns.length) /\ 0 <= a.p.b /\ a.p.b < a.w.c.ns.length) /\ (a.w.c.ms.length <= 40 /\ a.w.c.ns.length <= 20) /\ ∀ i, i < a.w.c.ns.length -> 0 <= (gD a.w.c.ns i).mi /\ (gD a.w.c.ns i).mi < a.w.c.ms.length] }
def BCZ : Ann := { ann 61 [] with E := [100, 101] }
def BKM (a : DkP) : Prop := CF Try.prog BCZ AUR (AH AUR) (C_late.xs a) (AB (C_late.L a)) (C_late.val a) (C_late.keep a) [] []
abbrev Xw:=QT
abbrev Qt a b:=BV a (EP b)
attribute [go_sem] Xw Qt
theorem BQA (a : DkP) : (BKM a) = (UY (SB (ZV a) (AO (VN a)) (ZF a)) (SB (PW (VN a) (ZF a)) (AU (VN a)) (PW (VN a) (ZV a))) (JH (Xw (VN a) (DkP.p a)) (XS (GO (BI (BD (VN a) (EP (ZF a)))) (BF (BD (VN a) (EP (ZV a))))) (Kf (BF (FK (VN a))) (Qt (VN a) (PW (VN a) (ZF a))) (Qt (VN a) (PW (VN a) (ZV a)))))) (VN a) (DkP.w a)) := by kernel_rfl
theorem ALJ : AK Try.prog ABB (C_late.spec dDkP) := VV C_late (λ _ => BCZ) [] [] BOE (λ _ => by kernel_rfl) (λ _ => AC) (λ (a : DkP) h => by
 obtain ⟨⟨h1, h2⟩, _, h3⟩ : ((0 <= a.p.a /\ a.p.a < a.w.c.ns.length) /\ 0 <= a.p.b /\ a.p.b < a.w.c.ns.length) /\ (a.w.c.ms.length <= 40 /\ a.w.c.ns.length <= 20) /\ ∀ i, i < a.w.c.ns.length -> 0 <= (gD a.w.c.ns i).mi /\ (gD a.w.c.ns i).mi < a.w.c.ms.length := h
 show BKM a; rw [BQA]<;> delta JH BI BF EN MM ON Ep EB EA BY AF CN CO AS BE FY MN ET GW FK HV IB HK GV FU HC DV FW EY XS EP QU EK OK AP LI Bu QW QS Xw AD CI AU AG AZ AX AE BM GQ AW BL BD AO AR DD BA BK NC CX HI BW BV AJ AQ NU AV FC CK AN AL LH HG FX FQ AM HE DK ID DR GO BX OX PI HS DX CE CW BQ XE WP PX HQ Fa GT NB EO VM IY MP PO iJ VN VQ EI OE PR PW TA ZV SP LR My ZF Po Ei UR SB UY Kf Qt; simp only [CC, eq_self, implies_true, forall_const]
 exact ⟨⟨h1, h2⟩, ⟨h3 _ (by omega), h3 _ (by omega)⟩, rfl⟩) (λ _ => WY rfl rfl) _
end Go.Bal
