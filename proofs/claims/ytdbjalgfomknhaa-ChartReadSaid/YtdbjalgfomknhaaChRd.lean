/- Law ChartRead: its walk. -/
import Derived.Test.YtdbjalgfomknhaaChW
import Derived.Test.YtdbjalgfomknhaaChM
set_option linter.unusedVariables false
set_option linter.unusedSimpArgs false
namespace Go.Bal
open Go Go.Sym Go.Proofs
structure RdI where
 bs : List Int
 at' : Int
 far : Int
 stage : Int
def rdM (x : RdI) : MkI := ⟨⟨x.bs, 0, 0⟩, 14, true⟩
def PF (x : RdI) : Cht := XB (rdM x)
def bP (x : RdI) : Tru := F2 (rdM x)
def rdZ (x : RdI) : CZ := ⟨PF x, (bP x).z⟩
def N0 (x : RdI) : List Span := UD (rdZ x)
def rdS (x : RdI) : List Span := FK (PF x)
def rdF (x : RdI) : Int := gD (bP x).t 0
def rdE (x : RdI) : Int := gD (bP x).t ((PF x).ms.length - 1)
def Wm (x : RdI) : Int := wr ((PF x).base + ZS x.stage 800)
def vW (x : RdI) : Int := wr (rdF x + ZS x.at' (wr (wr (rdE x - rdF x) + 1)))
def kE (x : RdI) : Int := wr (vW x + ZS x.far 500)
def fiK (s : List Int) (lim : Int) : Nat -> Int
 | 0 => -1
 | k + 1 => bif (bif decide (fiK s lim k < 0) then decide (gD s k >= lim) else false) then (k : Int) else fiK s lim k
structure PkB where
 v : Int
 b : Bool
def pbK (t s : List Int) (f o : Int) : Nat -> PkB
 | 0 => ⟨0, false⟩
 | k + 1 => bif (bif decide (gD t k >= f) then decide (gD t k <= o) else false) then ⟨bif (bif !(pbK t s f o k).b then true else decide (gD s k > (pbK t s f o k).v)) then gD s k else (pbK t s f o k).v, true⟩ else pbK t s f o k
def rdK (x : RdI) (k : Nat) : Int := fiK (bP x).s (Wm x) k
def rdP (x : RdI) (k : Nat) : PkB := pbK (bP x).t (bP x).s (vW x) (kE x) k
def rdH (x : RdI) : List (Nat × HCell) := [(2096, .live (chB (PF x))), (2112, .live (.box [.d (IN (bP x).t), .d (IN (bP x).s), .d (IN (bP x).z)]))]
def aO (x : RdI) : Nat := (PF x).ms.length
def rd0 (x : RdI) (l : List (Nat × AVal)) : ST := ⟨[(9, .bptr 2096 0), (10, .bptr 2112 0)] ++ l, rdH x⟩
def rd8 (x : RdI) : Shape := { α := One, dflt := default, T := λ _ => rd0 x [(1, .int x.at'), (2, .int x.far), (3, .int x.stage), (13, .d (CK (rdS x))), (15, .d (CK (N0 x)))], inv := λ _ => True, meas := λ _ => 0 }
def rdA (x : RdI) : List (Nat × AVal) := [(1, .int x.at'), (2, .int x.far), (13, .d (CK (rdS x))), (15, .d (CK (N0 x))), (19, .int (rdF x)), (20, .int (rdE x)), (21, .int (Wm x))]
def rd12 (x : RdI) : Shape := { α := Nat, dflt := 0, T := λ k => rd0 x (rdA x ++ [(22, .int (rdK x k)), (23, .int k)]), inv := λ k => k <= aO x, meas := λ k => aO x - k }
def rd13 (x : RdI) (m : Nat) : Shape := { α := Nat, dflt := 0, T := λ k => rd0 x (rdA x ++ [(22, .int (rdK x (k + 1))), (23, .int k)]), inv := λ k => k < aO x /\ aO x - k = m, meas := λ _ => 0 }
def rd18 (x : RdI) : Shape := { α := One, dflt := default, T := λ _ => rd0 x [(1, .int x.at'), (2, .int x.far), (13, .d (CK (rdS x))), (19, .int (rdF x)), (20, .int (rdE x)), (21, .int (Wm x)), (22, .int (rdK x (aO x)))], inv := λ _ => True, meas := λ _ => 0 }
def rdB (x : RdI) : List (Nat × AVal) := [(2, .int x.far), (13, .d (CK (rdS x))), (21, .int (Wm x)), (22, .int (rdK x (aO x))), (24, .int (vW x))]
def rd20 (x : RdI) : Shape := { α := Nat, dflt := 0, T := λ k => rd0 x (rdB x ++ [(25, .int k)]), inv := λ k => k <= aO x, meas := λ k => aO x - k }
structure KLH where
 k : Nat
 lo : Int
 hi : Int
 deriving Inhabited
def rdQ (x : RdI) (a : KLH) : Prop := (gD (bP x).t a.k = vW x /\ a.lo = gD (bP x).s a.k /\ a.hi = gD (bP x).s a.k) ∨ (a.k + 1 < aO x /\ gD (bP x).t a.k < vW x /\ vW x < gD (bP x).t (a.k + 1) /\ a.lo = PV (gD (bP x).s a.k) (gD (bP x).s (a.k + 1)) /\ a.hi = GV (gD (bP x).s a.k) (gD (bP x).s (a.k + 1)))
def rd26 (x : RdI) (m : Nat) : Shape := { α := KLH, dflt := default, T := λ a => rd0 x (rdB x ++ [(25, .int a.k), (26, .int a.lo), (27, .int a.hi)]), inv := λ a => (a.k < aO x /\ aO x - a.k = m) /\ rdQ x a, meas := λ _ => 0 }
def rd21 (x : RdI) (m : Nat) : Shape := { α := Nat, dflt := 0, T := λ k => rd0 x (rdB x ++ [(25, .int k)]), inv := λ k => k < aO x /\ aO x - k = m, meas := λ _ => 0 }
def rd29 (x : RdI) : Shape := { α := One, dflt := default, T := λ _ => rd0 x (rdB x), inv := λ _ => True, meas := λ _ => 0 }
def rdD (x : RdI) : List (Nat × AVal) := [(13, .d (CK (rdS x))), (21, .int (Wm x)), (22, .int (rdK x (aO x))), (24, .int (vW x)), (30, .int (kE x))]
def rd32 (x : RdI) : Shape := { α := Nat, dflt := 0, T := λ k => rd0 x (rdD x ++ [(31, .int (rdP x k).v), (32, .bool (rdP x k).b), (33, .int k)]), inv := λ k => k <= aO x, meas := λ k => aO x - k }
def rd33 (x : RdI) (m : Nat) : Shape := { α := Nat, dflt := 0, T := λ k => rd0 x (rdD x ++ [(31, .int (rdP x (k + 1)).v), (32, .bool (rdP x (k + 1)).b), (33, .int k)]), inv := λ k => k < aO x /\ aO x - k = m, meas := λ _ => 0 }
def rd38 (x : RdI) : Shape := { α := One, dflt := default, T := λ _ => rd0 x [(21, .int (Wm x)), (22, .int (rdK x (aO x))), (24, .int (vW x)), (30, .int (kE x)), (31, .int (rdP x (aO x)).v), (32, .bool (rdP x (aO x)).b)], inv := λ _ => True, meas := λ _ => 0 }
def xRd (x : RdI) : List AVal := [.d (eBys x.bs), .int x.at', .int x.far, .int x.stage]
def A_Rd (x : RdI) : Ann := { ann 413 [(BCG, C_New.spec BPK), (ASK, (yO true).spec (dMkI true)), (ADJ, C_hold.spec dCT), (H8, C_Stages.spec dC1), (ADM, C_Times.spec dCZ), (ACS, C_Stops.spec dC1), (AUE, BEX), (ADR, C_Stage.spec dCZI), (AMK, C_Peak.spec dCZ2), (ADL, C_First.spec dCZI), (ANG, AXW)] with loops := λ id => if id = 12 then some [rd12 x] else if id = 20 then some [rd20 x] else if id = 32 then some [rd32 x] else none, cut := λ id => if id = 8 then some [rd8 x] else if id = 18 then some [rd18 x] else if id = 29 then some [rd29 x] else if id = 38 then some [rd38 x] else none, cutIn := λ gs id => if id = 13 then some [rd13 x (gs.getD 0 0)] else if id = 26 then some [rd26 x (gs.getD 0 0)] else if id = 21 then some [rd21 x (gs.getD 0 0)] else if id = 33 then some [rd33 x (gs.getD 0 0)] else none }
def V_Rd (x : RdI) : Prop := CR Try.prog (A_Rd x) ALJ (AL ALJ) (xRd x) (AE []) (.bool true) [] [] []
abbrev AXL:=@Prod.snd (List Span) Int
abbrev SR:=vW
abbrev Fd:=KLH.k
abbrev AEM:=CZ2.mk
abbrev zH a b:=Hc (DG a) b
abbrev Hr a:=Tru.z (bP a)
abbrev sZ a:=zH (PF a) (Hr a)
abbrev P7 a b:=CZI.mk (sZ a) b
abbrev Sm a b:=JP (P7 a (Wm b))
abbrev Ea a:=Tru.t (bP a)
abbrev NE a b:=ET (Ea a) b
abbrev Wu a:=rdK a (aO a)
abbrev TR a:=AJ (Wm a)
abbrev R4 a:=AV (PF a)
abbrev AAV a:=AT (PF a)
abbrev Cl a b:=PkB.b (rdP a b)
abbrev Db a b:=PkB.v (rdP a b)
abbrev lU a:=AJ (kE a)
abbrev ZZ a:=AJ (SR a)
abbrev TB a b c d e f:=Rk a b (AAV c) (PF d) (R4 e) f
abbrev Pc a:=Tru.s (bP a)
abbrev TI a b c d (e:Nat->Prop) f (g:Nat->Prop) h p:=FM (QI (PF a)) (DB (PF b)) (JZ (PF c)) (JQ (Ea d)) e (JQ (Pc f)) g (JQ (Hr h)) (NV (Hr p))
abbrev TJ a b:=OO a (Pc b)
abbrev TG a b:=OO a (Ea b)
abbrev Cw a:=AJ (Wu a)
abbrev UO a:=LL (rdS a)
abbrev VG a:=IC (rdS a)
abbrev Cq a b c:=Bx (aO a) b c
abbrev WA a b:=DC a (aO b)
abbrev QF a b:=ET (Pc a) b
abbrev rC a:=LB (rdS a)
abbrev Bw a:=AJ (RdI.far a)
abbrev Yk a b:=AS (KLH.hi a) b
abbrev Gu a:=FB (Fd a)
abbrev Ez a b:=QF a (Fd b)
abbrev Yn a b:=AS (KLH.lo a) b
abbrev rI a:=AJ (RdI.at' a)
abbrev Nu a b c:=PD a (PO b c)
abbrev AQA a b:=G7 a b b
abbrev AHZ a:=EQ (RdI.bs a)
abbrev AHP a:=EQ (AHZ a)
abbrev AQX a:=F2 (MkI.mk (AQA (AHP a) 0) 14 LX)
abbrev ZB a:=Tru.z (AQX a)
abbrev dJ a:=Tru.s (AQX a)
abbrev gA a:=Tru.t (AQX a)
abbrev BX a:=XB (MkI.mk (AQA (AHP a) 0) 14 LX)
attribute [go_sem] AXL SR Fd AEM zH Hr sZ P7 Sm Ea NE Wu TR R4 AAV Cl Db lU ZZ TB Pc TI TJ TG Cw UO VG Cq WA QF rC Bw Yk Gu Ez Yn rI Nu AQA AHZ AHP AQX ZB dJ gA BX
theorem BWD (x : RdI) : (V_Rd x) = (JE (DA (CQ (AHZ x) (RdI.bs x)) (EO (AHZ x) (RdI.bs x)) (AS 14 (UB 14)) IZ (CQ (AHP x) (AHZ x)) (gV (EO (AHP x) (AHZ x)) (AJ 0) (AH (StmB 0 (AQA (AHP x) 0)) (HU 1 14) (HU 14 14)) IZ)) (AT (BX x)) (MZ (BX x) (AV (BX x)) (BA (BX x)) (BB (BX x)) (BF (BX x)) (BM (BX x)) (CA (BX x)) (AF (λ i=>BC i (BX x) (BG (BX x) i) (BD (BX x) i) (AP (BX x) i) (AZ (BX x) i) (AO (BX x) i) (BE (BX x) i) (AM (BX x) i))) (AN (NX (gA x)) (VE (gA x)) (NX (dJ x)) (VE (dJ x)) (NX (ZB x)) (VE (ZB x)) (UV (BX x) (NF (BX x)) (UA (ZB x))) (UA (gA x)) (UA (dJ x)))) (AK (QL (BX x) (BX x) (λ i=>BC i (BX x) (BG (BX x) i) (BD (BX x) i) (AP (BX x) i) (AZ (BX x) i) (AO (BX x) i) (BE (BX x) i) (AM (BX x) i)) (IB (BX x)) (NF (BX x))) (DA (AT (BX x)) (AW (BX x)) (AV (BX x)) (BA (BX x)) (BB (BX x)) (AN (BF (BX x)) (BM (BX x)) (CA (BX x)) (AF (λ i=>BC i (BX x) (BG (BX x) i) (BD (BX x) i) (AP (BX x) i) (AZ (BX x) i) (AO (BX x) i) (BE (BX x) i) (AM (BX x) i))) (NX (ZB x)) (VE (ZB x)) (IB (BX x)) (NF (BX x)) (UA (ZB x)))) (QL (BX x) (BX x) (λ i=>BC i (BX x) (BG (BX x) i) (BD (BX x) i) (AP (BX x) i) (AZ (BX x) i) (AO (BX x) i) (BE (BX x) i) (AM (BX x) i)) (XV (BX x) (BX x)) (CV (EV (LQ (BX x))) (CW (FN (BX x)) 14))) (FG (SZ (Gz (Gz (Gz (IE (Rz (CT.mk (DG (BX x)) (Tru.mk (EQ (gA x)) (EQ (dJ x)) (EQ (ZB x)))))) (IE (AXL (SU (DG (BX x))))) (IE (AXL (D5 (zH (BX x) (ZB x)))))) (IE (gW (Nx (BX x)))) (not (P6 (CT.mk (DG (BX x)) (Tru.mk (EQ (gA x)) (EQ (dJ x)) (EQ (ZB x))))))) (PX (LB (Su (BX x))) (ND (BX x))) (PX (LB (Yd (zH (BX x) (ZB x)))) (LB (Su (BX x))))) (JV (MJ (gQ (Nx (BX x)))) (MJ (ZB x)))) (EX LX) (KY (DA (rI x) (Bw x) (AJ (RdI.stage x)) (HT (rdS x) (Su (BX x))) (AF (λ i=>TE i (rdS x) i (Su (BX x)))) (AN (HT (N0 x) (Yd (zH (BX x) (ZB x)))) (AF (λ i=>TE i (N0 x) i (Yd (zH (BX x) (ZB x))))) (RZ (PF x) (BX x)) (SH (PF x) (BX x)) (SC (PF x) (BX x)) (RG (PF x) (BX x)) (RR (PF x) (BX x)) (RL (PF x) (BX x)) (FM (AF (λ i=>RQ i (PF x) (RF (PF x) i (BX x) i) i (BX x) i)) (SB (PF x) (BX x)) (AF (λ i=>EP i (PF x) (SK (SF (PF x) i (BX x) i) (PF x) i (AP (BX x) i) i (AO (BX x) i) (AM (BX x) i)))) (CQ (Ea x) (gA x)) (λ i=>JL i (Ea x) (gA x)) (CQ (Pc x) (dJ x)) (λ i=>JL i (Pc x) (dJ x)) (CQ (Hr x) (ZB x)) (EO (Hr x) (ZB x))))))) (At (bW (Al (Rb (FV (Ea x))) (JJ (MJ (Ea x))) (Ea x)) (IF (λ i=>WE (And (rI x) (CM (Bw x) (VG x) (UO x) (IC (N0 x)) (λ j=>ZR j (N0 x)) (AS (rdF x) (NE x SY)) (AS (rdE x) (NE x (HX (JJ (MJ (Ea x)))))) (AS (Wm x) (GO (IQ (PF x)) (ZS (RdI.stage x) 800))) (TB (AS (rdK x i) (-1)) (CY i) x x x (TI x x x x (λ j=>TG j x) x (λ j=>TJ j x) x x)))) i (aO x))) (λ i=>IR (MN i (aO x)) i (rC x) (And (HF (KG i (Ea x)) (JA i (N0 x)) (Io (Nu (NE x i) (N0 x) i) (KG i (Ea x))) (Io (Nu (NE x i) (N0 x) i) (JA i (N0 x))) (Io (SZ (Nu (NE x i) (N0 x) i) (JV (NE x i) (LU (N0 x) i))) (KG i (Pc x))) (Io (SZ (Nu (NE x i) (N0 x) i) (JV (NE x i) (LU (N0 x) i))) (JA i (rdS x))) (Io (Gz (Nu (NE x i) (N0 x) i) (JV (NE x i) (LU (N0 x) i)) (Nu (QF x i) (rdS x) i)) (KG i (Pc x))) (Io (Gz (Nu (NE x i) (N0 x) i) (JV (NE x i) (LU (N0 x) i)) (Nu (QF x i) (rdS x) i)) (JA i (rdS x)))) (EZ (SZ (Gz (Nu (NE x i) (N0 x) i) (JV (NE x i) (LU (N0 x) i)) (Nu (QF x i) (rdS x) i)) (JV (QF x i) (LU (rdS x) i))) (EX LX) (HQ (Ip (rdK x i)) (KG i (Pc x))) (MV (GB (Ip (rdK x i)) (bO (QF x i) (Wm x))) (IF (λ j=>NK (rI x) (CM (Bw x) (VG x) (UO x) (IC (N0 x)) (λ k=>ZR k (N0 x)) (AJ (rdF x)) (AJ (rdE x)) (TR x) (TB (AS (rdK x (FB j)) (CG i)) (JS j i) x x x (TI x x x x (λ k=>TG k x) x (λ k=>TJ k x) x x))) (WA j x) (Cq x j i))) (λ j=>NK (rI x) (CM (Bw x) (VG x) (UO x) (IC (N0 x)) (λ k=>ZR k (N0 x)) (AJ (rdF x)) (AJ (rdE x)) (TR x) (TB (AS (rdK x (FB j)) (rdK x i)) (JS j i) x x x (TI x x x x (λ k=>TG k x) x (λ k=>TJ k x) x x))) (WA j x) (Cq x j i))))) (AF (λ j=>SE (WA j x) (Cq x j i) (IF (λ k=>YZ (And (rI x) (CM (Bw x) (VG x) (UO x) (IC (N0 x)) (λ l=>ZR l (N0 x)) (AJ (rdF x)) (AJ (rdE x)) (TR x) (TB (AS (rdK x k) (rdK x (FB j))) (CJ k j) x x x (TI x x x x (λ l=>TG l x) x (λ l=>TJ l x) x x)))) k (aO x) k i)))) (KY (GH (rI x) (Bw x) (VG x) (UO x) (AJ (rdF x)) (AJ (rdE x)) (TB (TR x) (AS (Wu x) (rdK x i)) x x x (TI x x x x (λ j=>TG j x) x (λ j=>TJ j x) x x))))) (At (Ab (NL (λ i=>WE (DA (Bw x) (VG x) (UO x) (TR x) (Cw x) (TB (AS (SR x) (GO (rdF x) (ZS (RdI.at' x) (Zg (rdE x) (rdF x))))) (CY i) x x x (TI x x x x (λ j=>TG j x) x (λ j=>TJ j x) x x))) i (aO x)) (λ i=>IR (MN i (aO x)) i (rC x) (JE (Al (KG i (Pc x)) (CG i) (Pc x)) (KG i (Ea x)) (DH (PX (NE x i) (SR x)) (And (Io (Lv (EH i) (rC x)) (KG i (Ea x))) (Io (SZ (Lv (EH i) (rC x)) (JV (NE x i) (SR x))) (TV (EH i) (Ea x)))) (EZ (Gz (Lv (EH i) (rC x)) (JV (NE x i) (SR x)) (hd7 (NE x (UK i)) (SR x))) (IF (λ j=>AH (DA (Bw x) (VG x) (UO x) (TR x) (Cw x) (TB (ZZ x) (JS j i) x x x (TI x x x x (λ k=>TG k x) x (λ k=>TJ k x) x x))) (WA j x) (Cq x j i))) (Al (TV (EH i) (Pc x)) (EH i) (Pc x)) ((@Exists KLH) (λ j=>JE (HF (Bw x) (VG x) (UO x) (TR x) (Cw x) (ZZ x) (JS (Fd j) i) (TB (Yn j (wC (QF x i) (QF x (UK i)))) (Yk j (Ob (QF x i) (QF x (UK i)))) x x x (TI x x x x (λ k=>TG k x) x (λ k=>TJ k x) x x))) (WA (Fd j) x) (Cq x (Fd j) i) (Or (AH (AS (NE x (Fd j)) (SR x)) (Yn j (Ez x j)) (Yk j (Ez x j))) (AK (WA (Gu j) x) (KV (NE x (Fd j)) (SR x)) (KV (SR x) (NE x (Gu j))) (Yn j (wC (Ez x j) (QF x (Gu j)))) (Yk j (Ob (Ez x j) (QF x (Gu j))))))))) ((@Exists KLH) (λ j=>JE (HF (Bw x) (VG x) (UO x) (TR x) (Cw x) (ZZ x) (JS (Fd j) i) (TB (Yn j (QF x i)) (Yk j (QF x i)) x x x (TI x x x x (λ k=>TG k x) x (λ k=>TJ k x) x x))) (WA (Fd j) x) (Cq x (Fd j) i) (Or (AH (AS (NE x (Fd j)) (SR x)) (Yn j (Ez x j)) (Yk j (Ez x j))) (AK (WA (Gu j) x) (KV (NE x (Fd j)) (SR x)) (KV (SR x) (NE x (Gu j))) (Yn j (wC (Ez x j) (QF x (Gu j)))) (Yk j (Ob (Ez x j) (QF x (Gu j))))))))) ((λ (f : KLH -> Prop) => ∀ (x : KLH), f x) (λ j=>SE (And (WA (Fd j) x) (Cq x (Fd j) i)) (Or (AH (AS (NE x (Fd j)) (SR x)) (Yn j (Ez x j)) (Yk j (Ez x j))) (AK (WA (Gu j) x) (KV (NE x (Fd j)) (SR x)) (KV (SR x) (NE x (Gu j))) (Yn j (wC (Ez x j) (QF x (Gu j)))) (Yk j (Ob (Ez x j) (QF x (Gu j)))))) (And (GH (AAV x) (AW (PF x)) (R4 x) (BA (PF x)) (BB (PF x)) (BF (PF x)) (CM (BM (PF x)) (CA (PF x)) (AF (λ k=>BC k (PF x) (BG (PF x) k) (BD (PF x) k) (AP (PF x) k) (AZ (PF x) k) (AO (PF x) k) (BE (PF x) k) (AM (PF x) k))) (NX (Hr x)) (λ k=>JL k (EQ (Hr x)) (Hr x)) (ZZ x) (IB (PF x)) (NF (PF x)) (UA (Hr x)))) (MV (Gz (IE (Zn (RJ (P7 x (SR x))))) (JV (CI (Rd (RJ (P7 x (SR x))))) (KLH.lo j)) (PD (CH (Rd (RJ (P7 x (SR x))))) (KLH.hi j))) (EX LX) (λ k=>AH (DA (Bw x) (VG x) (UO x) (TR x) (Cw x) (TB (ZZ x) (JS k (Fd j)) x x x (TI x x x x (λ l=>TG l x) x (λ l=>TJ l x) x x))) (WA k x) (Cq x k i))))))) (AF (λ j=>SE (WA j x) (Cq x j i) (IF (λ k=>YZ (DA (Bw x) (VG x) (UO x) (TR x) (Cw x) (TB (ZZ x) (CJ k j) x x x (TI x x x x (λ l=>TG l x) x (λ l=>TJ l x) x x))) k (aO x) k i)))) (KY (AK (Bw x) (VG x) (UO x) (TR x) (TB (Cw x) (ZZ x) x x x (TI x x x x (λ j=>TG j x) x (λ j=>TJ j x) x x)))))) (Ab (NL (λ i=>WE (HF (VG x) (UO x) (TR x) (Cw x) (ZZ x) (AS (kE x) (GO (SR x) (ZS (RdI.far x) 500))) (EV (Db x i)) (TB (EX (Cl x i)) (CY i) x x x (TI x x x x (λ j=>TG j x) x (λ j=>TJ j x) x x))) i (aO x)) (λ i=>IR (MN i (aO x)) i (rC x) (And (And (KG i (Ea x)) (HQ (bO (NE x i) (SR x)) (KG i (Ea x)))) (DH (GB (bO (NE x i) (SR x)) (hd7 (NE x i) (kE x))) (Io (not (Cl x i)) (KG i (Pc x))) (DH (SZ (not (Cl x i)) (JV (QF x i) (Db x i))) (KG i (Pc x)) (IF (λ j=>AH (HF (VG x) (UO x) (TR x) (Cw x) (ZZ x) (lU x) (AS (Db x (FB j)) (QF x i)) (TB (EK (Cl x (FB j))) (JS j i) x x x (TI x x x x (λ k=>TG k x) x (λ k=>TJ k x) x x))) (WA j x) (Cq x j i))) (IF (λ j=>AH (HF (VG x) (UO x) (TR x) (Cw x) (ZZ x) (lU x) (AS (Db x (FB j)) (Db x i)) (TB (EK (Cl x (FB j))) (JS j i) x x x (TI x x x x (λ k=>TG k x) x (λ k=>TJ k x) x x))) (WA j x) (Cq x j i)))) (IF (λ j=>AH (HF (VG x) (UO x) (TR x) (Cw x) (ZZ x) (lU x) (AS (Db x (FB j)) (Db x i)) (TB (LV (Cl x (FB j)) (Cl x i)) (JS j i) x x x (TI x x x x (λ k=>TG k x) x (λ k=>TJ k x) x x))) (WA j x) (Cq x j i))))) (AF (λ j=>SE (WA j x) (Cq x j i) (IF (λ k=>YZ (HF (VG x) (UO x) (TR x) (Cw x) (ZZ x) (lU x) (AS (Db x k) (Db x (FB j))) (TB (LV (Cl x k) (Cl x (FB j))) (CJ k j) x x x (TI x x x x (λ l=>TG l x) x (λ l=>TJ l x) x x))) k (aO x) k i)))) (KY (AK (TR x) (Cw x) (ZZ x) (lU x) (TB (AS (Db x (aO x)) (Db x i)) (LV (Cl x (aO x)) (Cl x i)) x x x (TI x x x x (λ j=>TG j x) x (λ j=>TJ j x) x x)))))) (And (HF (AAV x) (AW (PF x)) (R4 x) (BA (PF x)) (BB (PF x)) (BF (PF x)) (BM (PF x)) (AN (CA (PF x)) (AF (λ i=>BC i (PF x) (BG (PF x) i) (BD (PF x) i) (AP (PF x) i) (AZ (PF x) i) (AO (PF x) i) (BE (PF x) i) (AM (PF x) i))) (NX (Hr x)) (VE (Hr x)) (ZZ x) (lU x) (IB (PF x)) (NF (PF x)) (UA (Hr x)))) (EZ (SZ (GB (Cl x (aO x)) (Gz (IE (Zn (SX (AEM (sZ x) (SR x) (kE x))))) (PD (Db x (aO x)) (CI (Rd (SX (AEM (sZ x) (SR x) (kE x)))))) (JV (Db x (aO x)) (CH (Rd (SX (AEM (sZ x) (SR x) (kE x)))))))) (GB (GB (not (Cl x (aO x))) (IE (Zn (SX (AEM (sZ x) (SR x) (kE x)))))) (PX (Zn (SX (AEM (sZ x) (SR x) (kE x)))) 5))) (EX LX) (GH (AAV x) (AW (PF x)) (R4 x) (BA (PF x)) (BB (PF x)) (BF (PF x)) (CM (BM (PF x)) (CA (PF x)) (AF (λ i=>BC i (PF x) (BG (PF x) i) (BD (PF x) i) (AP (PF x) i) (AZ (PF x) i) (AO (PF x) i) (BE (PF x) i) (AM (PF x) i))) (NX (Hr x)) (λ i=>JL i (EQ (Hr x)) (Hr x)) (TR x) (IB (PF x)) (NF (PF x)) (UA (Hr x)))) (DH (WD (Wu x)) (And (HQ (XR (K5 (Sm x x))) (TV (Wu x) (Ea x))) (HQ (GB (XR (K5 (Sm x x))) (bO (NE x (HX (Wu x))) (CI (FsR.s (Sm x x))))) (TV (Wu x) (Ea x)))) (LV LX (SZ (GB (GB (XR (K5 (Sm x x))) (bO (NE x (HX (Wu x))) (CI (FsR.s (Sm x x))))) (hd7 (NE x (HX (Wu x))) (CH (FsR.s (Sm x x))))) He)) (LV LX (Gz (Lv (K5 (Sm x x)) 5) (Ae (XR (K5 (Sm x x))) (FsR.b (Sm x x))) He)))))))))))) := by kernel_rfl
end Go.Bal
