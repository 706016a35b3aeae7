/- Package chart: the fewest stops. -/
import Derived.Test.YtdbjalgfomknhaaGreatChJ
import Derived.Test.YtdbjalgfomknhaaGreatChPd
import Derived.Test.YtdbjalgfomknhaaGreatChT2
set_option linter.unusedVariables false
set_option linter.unusedSimpArgs false
namespace Go.Bal
open Go Go.Sym Go.Proofs
def idL (n : Nat) : List Int := IK n λ i => (i : Int)
def QV (c : Cht) : List Int := kN (KY c) (idL c.ns.length)
structure FwS where
 la : Int
 q : List Int
 r : List Pr
 deriving Inhabited
def miA (c : Cht) (a : Int) : Int := (gD c.ns a.toNat).mi
def fwP (c : Cht) (la b a : Int) : Bool := bif decide (miA c a > la) then Xp c ⟨a, b⟩ else false
def fwN (c : Cht) (s : FwS) (b : Int) : Option Int -> FwS
 | none => s
 | some a => ⟨wr (miA c b - 1), s.q ++ [wr (miA c b - 1)], s.r ++ [⟨a, b⟩]⟩
def Mu (c : Cht) : Nat -> FwS
 | 0 => ⟨-1, [], []⟩
 | k + 1 => fwN c (Mu c k) (gD (QV c) k) (((QV c).take k).find? (fwP c (Mu c k).la (gD (QV c) k)))
def fwE (c : Cht) : FwS := Mu c c.ns.length
def fwW (c : Cht) : Dk := stD ⟨BA c, (fwE c).q⟩
structure FwR where
 q : List Int
 r : List Pr
 e : Int
def nilI : List Int := []
def nilP : List Pr := []
def zM (c : Cht) : FwR := bif (GD (fwW c)).2 then ⟨(fwE c).q, (fwE c).r, 0⟩ else ⟨nilI, nilP, 6⟩
def sC (c : Cht) : FwR := bif AM c == 0 then zM c else ⟨nilI, nilP, AM c⟩
def C_few : Ctr := { α := Cht, xs := λ c => [.d (Dj c)], val := λ c => .tup [.d (DV (sC c).q), .d (eO (sC c).r), .int (sC c).e], keep := λ _ => [], pre := λ c => [(c.ms.length < 4611686018427387904 /\ c.ns.length < 4611686018427387904) /\ (AM c = 0 -> c.ns.length <= 14)] }
def fwH (c : Cht) : List (Nat × HCell) := [(201, .live (sJ c)), (203, .live (dkB (BA c) 204)), (204, .live (dkM (BA c)))]
def fw6S (c : Cht) (k : Nat) : List (Nat × AVal) := [(1, .bptr 201 0), (5, .bptr 203 0), (29, .int c.ns.length), (30, .int k)]
def fwR : List (Nat × Nat) := [(201, 1000), (203, 2016), (204, 2017)]
def fw6n (c : Cht) : Shape := { α := One, dflt := default, T := λ _ => ⟨(7, .d Jn) :: fw6S c 0, fwH c⟩, inv := λ _ => True, meas := λ _ => 60, first := fwR }
def fw6o (c : Cht) : Shape := { α := Nat, dflt := 0, T := λ k => ⟨(7, .own 202 1 0 k) :: fw6S c k, fwH c ++ [(202, .live (.row 1 k λ i => TT i))]⟩, inv := λ k => 1 <= k /\ k <= c.ns.length, meas := λ k => 50 - k, again := [(202, 9048)] }
def fwB (c : Cht) : List (Nat × AVal) := [(1, .bptr 201 0), (5, .bptr 203 0), (7, .d (DV (QV c)))]
def fw11 (c : Cht) (z : List Nat) : Shape := { α := One, dflt := default, T := λ _ => ⟨fwB c, fwH c⟩, inv := λ _ => True, meas := λ _ => 0, ffz := z }
def fwT (c : Cht) (k : Nat) : List (Nat × AVal) := fwB c ++ [(11, .int (Mu c k).la), (41, .d (DV (QV c))), (42, .int c.ns.length), (43, .int k)]
def fwY (c : Cht) (k : Nat) : List (Nat × HCell) := fwH c ++ [(301, .live (.row 1 (Mu c k).q.length λ i => TT (gD (Mu c k).q i))), (302, .live (.row 2 (Mu c k).r.length λ i => ePr (gD (Mu c k).r i)))]
def ATW : List (Nat × AVal) := [(9, .d Jn), (10, .d Jn)]
def BEX (c : Cht) (k : Nat) : List (Nat × AVal) := [(9, .own 301 1 0 (Mu c k).q.length), (10, .own 302 2 0 (Mu c k).r.length)]
def BXI (c : Cht) : Shape := { α := Nat, dflt := 0, T := λ k => ⟨ATW ++ fwT c k, fwH c⟩, inv := λ k => k <= c.ns.length /\ (Mu c k).q = [], meas := λ k => c.ns.length - k, tag := [0] }
def BXN (c : Cht) : Shape := { α := Nat, dflt := 0, T := λ k => ⟨BEX c k ++ fwT c k, fwY c k⟩, inv := λ k => k <= c.ns.length /\ 1 <= (Mu c k).q.length, meas := λ k => c.ns.length - k, tag := [1] }
def fwJ (c : Cht) (k j : Nat) : List (Nat × AVal) := [(13, .int (gD (QV c) k)), (50, .d (DV ((QV c).take k))), (51, .int k), (52, .int j)]
def BXJ (c : Cht) (m : Nat) : Shape := { α := IJ, dflt := default, T := λ s => ⟨fwJ c s.i s.j ++ (ATW ++ fwT c s.i), fwH c⟩, inv := λ s => (s.i < c.ns.length /\ c.ns.length - s.i = m /\ s.j <= s.i /\ ∀ t, t < s.j -> fwP c (Mu c s.i).la (gD (QV c) s.i) (gD (QV c) t) = false) /\ (Mu c s.i).q = [], meas := λ s => c.ns.length - s.j }
def BYD (c : Cht) (m : Nat) : Shape := { α := IJ, dflt := default, T := λ s => ⟨fwJ c s.i s.j ++ (BEX c s.i ++ fwT c s.i), fwY c s.i⟩, inv := λ s => (s.i < c.ns.length /\ c.ns.length - s.i = m /\ s.j <= s.i /\ ∀ t, t < s.j -> fwP c (Mu c s.i).la (gD (QV c) s.i) (gD (QV c) t) = false) /\ 1 <= (Mu c s.i).q.length, meas := λ s => c.ns.length - s.j }
def fwT2 (c : Cht) (k : Nat) : List (Nat × AVal) := fwB c ++ [(11, .int (Mu c (k + 1)).la), (41, .d (DV (QV c))), (42, .int c.ns.length), (43, .int k)]
def BXE (c : Cht) (m : Nat) : Shape := { α := Nat, dflt := 0, T := λ k => ⟨ATW ++ fwT2 c k, fwH c⟩, inv := λ k => k < c.ns.length /\ c.ns.length - k = m /\ (Mu c (k + 1)).q = [], meas := λ _ => 0 }
def BCV (c : Cht) (m : Nat) (f : List (Nat × Nat)) : Shape := { α := Nat, dflt := 0, T := λ k => ⟨BEX c (k + 1) ++ fwT2 c k, fwY c (k + 1)⟩, inv := λ k => k < c.ns.length /\ c.ns.length - k = m /\ 1 <= (Mu c (k + 1)).q.length, meas := λ _ => 0, first := f }
def fw26 (c : Cht) (z : List Nat) : Shape := { α := One, dflt := default, T := λ _ => ⟨[(5, .bptr 203 0), (9, .d (DV (fwE c).q)), (10, .d (eO (fwE c).r))], [(203, .live (dkB (BA c) 204)), (204, .live (dkM (BA c)))]⟩, inv := λ _ => True, meas := λ _ => 0, ffz := z }
def fw10 (c : Cht) : Shape := { α := One, dflt := default, T := λ _ => ⟨[(1, .bptr 201 0), (5, .bptr 203 0), (7, .own 202 1 0 c.ns.length)], fwH c ++ [(202, .live (.row 1 c.ns.length λ i => TT i))]⟩, inv := λ _ => 1 <= c.ns.length, meas := λ _ => 0 }
def BQY (c : Cht) : Ann := { ann 101 [(ZZ, C_open.spec kM), (yW, C_srt.spec dGLt), (AJQ, C_late.spec dDkP), (ACR, C_stop.spec dDkZ), (Up, C_times.spec Ze)] with mt := λ id => id == 8 || id == 23, loops := λ id => if id = 6 then some [fw6n c, fw6o c] else if id = 15 then some [BXI c, BXN c] else none, inner := λ gs id => if id = 18 then (if gs.getD 1 0 = 0 then some [BXJ c (gs.getD 0 0)] else some [BYD c (gs.getD 0 0)]) else none, cut := λ id => if id = 10 then some [fw10 c] else if id = 11 then some [fw11 c [202]] else if id = 26 then some [fw26 c [], fw26 c [301, 302]] else none, cutIn := λ gs id => if id = 25 then (if gs.getD 1 0 = 0 then some [BXE c (gs.getD 0 0), BCV c (gs.getD 0 0) [(301, 24048), (302, 24112)]] else some [BCV c (gs.getD 0 0) [(301, 24048), (302, 24112)], BCV c (gs.getD 0 0) []]) else none }
def BOT (c : Cht) : Prop := CH Try.prog (BQY c) Yt (AH Yt) [.d (Dj c)] (AB []) (.tup [.d (DV (zM c).q), .d (eO (zM c).r), .int (zM c).e]) [] [] []
abbrev Wg:=QV
abbrev ANU:=@List.nil Int
abbrev APW:=@List.cons DVal
abbrev sP:=FwR.q
abbrev tB:=FwR.r
abbrev sL:=FwR.e
abbrev cX a:=FwS.r (fwE a)
abbrev mE a:=FwS.q (fwE a)
abbrev sK a b c:=XA a b b c
abbrev Aq a:=EN a 0
abbrev sM a:=QY (mE a)
abbrev PK a:=AOG (BF a) a a (sM a)
abbrev Fe a:=AS (BF a)
abbrev Ag a:=AP (BF a)
abbrev Ar a:=AQ (BF a)
abbrev Dr a:=KQ (BF a)
abbrev aT a b:=VU (BF a) b
abbrev Qk a b:=BK a (BF b)
abbrev YF a:=CG (BF a)
abbrev cM a b:=DX a (BF b)
abbrev XY a:=BX (BF a)
abbrev APT a b:=FwS.r (Mu a b)
abbrev Fb a b c:=RT (APT a b) c
abbrev Fr a b c:=MF (APT a b) c
abbrev Lg a b:=YC (APT a b)
abbrev Eh a b:=FwS.q (Mu a b)
abbrev Ql a:=PH (FP a)
abbrev Iw a:=PG (Wg a)
abbrev Lk a b c d e:=sQ (MK (Wg a)) (AR b c) (Iw d) e
abbrev It a b:=Lg a (DF b)
abbrev SH a b:=Eh a (DF b)
abbrev Sm a:=Jx (BF a)
abbrev gT a:=HE (BF a)
abbrev Rs a:=JS (BF a)
abbrev aM a b:=FwS.la (Mu a b)
abbrev hZ a b:=aM a (DF b)
abbrev Yq a b c:=Af a (AN b) c
abbrev jA a b:=LO (AN a) b
abbrev Xi a b:=CL a (AN b)
abbrev YB a b:=Lg a (HH b)
abbrev PB a b:=Eh a (HH b)
abbrev YD a b:=aM a (HH b)
abbrev Vu a b:=FK (Wg a) b
abbrev RG a b:=Vu a (HH b)
abbrev Tm a b:=hU a (HH b)
abbrev Ty a b c d:=Yq (Yb (AN a) b) c d
abbrev Sy a b:=Xi (HH a) b
abbrev By a b:=lC (HH a) (Wg b)
abbrev Pv a b:=FK (By a b) (IA a)
abbrev Rw a b:=YU a b 1
abbrev nL a:=APW a (@List.nil DVal)
abbrev lG a b:=APW a (nL b)
abbrev Su a b c d:=dPr (DVal.agg (lG (TT (Pv a b)) (DVal.v (Ln (RG c d)))))
abbrev mP a:=DA (BF a)
abbrev Rr a b c d:=AF a b b c d
abbrev aK a:=Zy a ANU
abbrev lX a b c:=XG a AI b c
abbrev Cc a b:=lX FW a b
abbrev Tp a:=VV (AN a) BZ
abbrev Lq a b (c:Nat->Prop) d e:=ZD a (BX b) c (CG d) e
attribute [go_sem] Wg ANU APW sP tB sL cX mE sK Aq sM PK Fe Ag Ar Dr aT Qk YF cM XY APT Fb Fr Lg Eh Ql Iw Lk It SH Sm gT Rs aM hZ Yq jA Xi YB PB YD Vu RG Tm Ty Sy By Pv Rw nL lG Su mP Rr aK lX Cc Tp Lq
theorem BSG (c : Cht) : (BOT c) = (HU (AQ c) (AT c) (UE c (BO c) c c (Gm c c) (Sx c)) (IG (HI (Hj FW (AK (RQ c) BQ (AQ c) (AT c) (AP c) (AS c) (AV c) (BX c) (AK (JS c) (CG c) (HE c) (TH (BF c) (ND c)) (UC (BF c) (ND c)) (TU (BF c) (ND c)) (UB (BF c) (ND c)) (TC (BF c) (ND c)) (SO (TQ (BF c) (ND c)) (λ i=>UA i (BF c) (ND c) i i) (UK (BF c) (ND c)) (λ i=>DW i (BF c) (TM (BF c) i (ND c) i i i i)) LG BT (λ i=>TW (BF c) i (ND c) i) (λ i=>UF (ZS c) i (ZS (DK c)) i) (λ i=>TR (BF c) i (ND c) i i i)))))) (Fx (λ i=>GQ IH 0 (AN c) (RE (Av (JD 0)) (Rw MG 1) XL YE 8) (GN (λ j=>IW (AF AI (JD j) (RQ c) (BD j 0) (Lq c c (λ k=>DX k c) c (MJ (HE c) (Ar c) (BF c) (Ag c) (Fe c) (XY c) (Rs c) (PZ (YF c) (λ k=>Qk k c) LG BT (Sm c) (UH c) (λ k=>JF (BF c) k) (JD j) (AD (λ k=>AU k j (NP k 0))))))) (NA j (AN c)) 50 j 60)) JV)) (λ i=>GQ (NA i (AN c)) i (AN c) (RE (Rw (BC i) i) (Rw MG 1) TI (TX i) (Hd i 8)) (GN (λ j=>WI (AF AI (PL j i) (RQ c) (BD j i) (Lq c c (λ k=>DX k c) c (MJ (HE c) (Ar c) (BF c) (Ag c) (Fe c) (XY c) (Rs c) (PZ (YF c) (λ k=>Qk k c) LG BT (Sm c) (UH c) (λ k=>JF (BF c) k) (PL j i) (AD (λ k=>AU k j (EO k (JP k i (BZ k) (BZ i))))))))) (NA j (AN c)) j i)) (Rm (λ j=>And (Hj (BW (AN c) i) (Lq c c (λ k=>DX k c) c (MJ (HE c) (Ar c) (BF c) (Ag c) (Fe c) (XY c) (Rs c) (PZ (YF c) (λ k=>Qk k c) LG BT (Sm c) (UH c) (λ k=>JF (BF c) k) (BW (AN c) i) (AD (λ k=>DW k c (IM k))))))) (Et 1 c))))) (Jp (Et 1 c) (PO (And (Rr AI (EN (Tp c) (AN c)) (AD (λ i=>OB i (Tp c) (BZ i))) (QS c (VA c (BO c) (BL c) (BE c) (BI c) (AQ c) (AT c) (AP c) (UX c (CQ c) (DN c) (DH c) (Or (DJ (FP (Tp c)) 12) (And (Or (EN (Tp c) 13) (EN (Tp c) 14)) (ndk (Ub c) (Tp c)))) (Fq (Tp c)) (AD (λ i=>UO i (Tp c) i c)))))) (HI (And (EN (Wg c) (AN c)) (DC (QK (AN c) (FP (Tp c))) (λ i=>SM i (Wg c) (kN (Ub c) (Tp c)) (BV i)) (AQ c) (AT c) (AP c) (AS c) (AV c) (BX c) (HT (JS c) (CG c) (HE c) (BF c) (OI (XY c) (λ i=>cM i c) (YF c) (λ i=>Qk i c) LG BT (λ i=>aT c i) (ZS c) (Dr c))))))) (sU (IG (GN (λ i=>AE (VW (Cc (Iw c) (Lk c (aM c i) (-1) c (AK (EO (AN c) (LP (Wg c))) (BR i) (AQ c) (AT c) (AP c) (AS c) (AV c) (BX c) (HT (JS c) (CG c) (HE c) (BF c) (OI (XY c) (λ j=>cM j c) (YF c) (λ j=>Qk j c) LG BT (λ j=>aT c j) (ZS c) (Dr c))))))) (XK i c) (aK (Eh c i)))) (AD (λ i=>BU (GZ i (AN c) (aK (Eh c i))) (KS (Ff i (AN c)) (AO (MW i (Wg c)) (UZ Lx (BZ i) (HO (BZ i) (LP (Wg c)))) (dB (λ j=>HU (AR (RG c j) (Vu c i)) (EN (By j c) (Tb i)) (AF (AD (λ k=>SM k (By j c) (Wg c) (Si k))) (Sh j (Tb i)) (BR (IA j)) AI (Cc (Iw c) (Lk c (YD c j) (aM c i) c (AK (RQ c) (Sh j i) (AQ c) (AT c) (AP c) (AS c) (AV c) (BX c) (HT (JS c) (CG c) (HE c) (BF c) (OI (XY c) (λ k=>cM k c) (YF c) (λ k=>Qk k c) LG BT (λ k=>aT c k) (ZS c) (Dr c))))))) (Fg (Sy j c) (Ty c j c i) (Tm j j) (λ k=>Qm k j (EF (fwP c (YD c j) (RG c j) (Vu c k))))) (aK (PB c j)))) (Y7 (λ j=>BU (JR (Sy j c) (Ty c j c i) (Tm j j) (AD (λ k=>Qm k j (EF (fwP c (YD c j) (RG c j) (Vu c k))))) (aK (PB c j))) (KS (HB (IA j) (Kj j)) (MW (IA j) (By j c)) (And (CD (Pv j c) (AN c)) (HF (JM (WK c (Pv j c)) (YD c j)) (AK (AR (Pr.a (Su j c c j)) (Pv j c)) (AR (Pr.b (Su j c c j)) (RG c j)) (Ar c) (AT (BF c)) (Ag c) (Fe c) (AV (BF c)) (BO (BF c)) (WY (BF c) LG (UH c) (Bz (Ar c) (BF c) (Ag c) (BF c) (CQ (BF c)) (λ k=>DG k (BF c)) (DH (BF c)) (QN (BF c) (λ k=>Lp k 40) BT (JI (BF c)) (UH c) (JK (BF c)) (XI (Pr.a (Su j c c j)) (mP c) (Pr.b (Su j c c j))) (GZ (DQ (BF c)) 40 (DJ (mP c) 20)) (AD (λ k=>ZK k (mP c) (NH (BF c) k) (DQ (BF c)))))))))) (Fu (ER (JM (WK c (Pv j c)) (YD c j)) (Xp (DK (BF c)) (Su j c c j))) (CD (RG c j) (AN c)) (EW (RE (Av (JD 0)) (Rw MG 1) XL YE 8) YW Gk XL YE (PM 16)) (λ k=>AO (YV (EN (SH c k) 1) AI (JD (It c k)) (Iw c) (Lk c (hZ c k) (PV (WK c (RG c j))) c (AF (RQ c) (NP k (HH j)) (AQ c) (AT c) (Fi c (BX c) c c (λ l=>BK l c) (Ar c) (MX (BF c) (Ag c) (Fe c) (XY c) (Rs c) (YF c) (gT c) (KM LG BT (Sm c) (UH c) (Dr c) (EN (SH c k) 1) (λ l=>OB l (SH c k) (PV (WK c (RG c j)))) (JD (It c k)) (λ l=>DB l (It c k) (Fr c (DF k) l) (Pv j c) (Fb c (DF k) l) (RG c j)))))))) (Xi k c) (Yq (jA c k) c i) (Ql (SH c k))) (dB (λ k=>EB (IR (AR (RG c k) (RG c j)) (CB (By k c) (By j c)) (CW (By k c) (By j c)) (No k j) (BD (IA k) (IA j)) AI (Cc (Iw c) (Lk c (YD c k) (YD c j) c (AK (RQ c) (No k j) (AQ c) (AT c) (AP c) (AS c) (AV c) (BX c) (HT (JS c) (CG c) (HE c) (BF c) (OI (XY c) (λ l=>cM l c) (YF c) (λ l=>Qk l c) LG BT (λ l=>aT c l) (ZS c) (Dr c))))))) (JR (Sy k c) (Ty c k c i) (Tm k k) (AD (λ l=>Qm l k (EF (fwP c (YD c k) (RG c k) (Vu c l))))) (aK (PB c k))) (AN c) (IA k) (IA j)))) (GN (λ k=>AO (VW (Cc (Iw c) (Lk c (hZ c k) (YD c j) c (AK (RQ c) (NP k (HH j)) (AQ c) (AT c) (AP c) (AS c) (AV c) (BX c) (HT (JS c) (CG c) (HE c) (BF c) (OI (XY c) (λ l=>cM l c) (YF c) (λ l=>Qk l c) LG BT (λ l=>aT c l) (ZS c) (Dr c))))))) (Xi k c) (Yq (jA c k) c i) (aK (SH c k)))))))) (AD (λ j=>BU (AE (Xi j c) (Yq (jA c j) c i) (aK (SH c j))) (GN (λ k=>MA (VW (Cc (Iw c) (Lk c (aM c k) (hZ c j) c (AK (RQ c) (BD k j) (AQ c) (AT c) (AP c) (AS c) (AV c) (BX c) (HT (JS c) (CG c) (HE c) (BF c) (OI (XY c) (λ l=>cM l c) (YF c) (λ l=>Qk l c) LG BT (λ l=>aT c l) (ZS c) (Dr c))))))) k (AN c) (aK (Eh c k)) i)))) (AD (λ j=>BU (AE (Xi j c) (Yq (jA c j) c i) (Ql (SH c j))) (GN (λ k=>MA (YV (CB (Eh c k) (SH c j)) AI (BW (Lg c k) (It c j)) (Iw c) (Lk c (aM c k) (hZ c j) c (AF (RQ c) (BD k j) (AQ c) (AT c) (Fi c (BX c) c c (λ l=>BK l c) (Ar c) (MX (BF c) (Ag c) (Fe c) (XY c) (Rs c) (YF c) (gT c) (KM LG BT (Sm c) (UH c) (Dr c) (CB (Eh c k) (SH c j)) (λ l=>LS l (Eh c k) (SH c j)) (BW (Lg c k) (It c j)) (λ l=>DB l (Lg c k) (Fr c k l) (Fr c (DF j) l) (Fb c k l) (Fb c (DF j) l)))))))) k (AN c) (Ql (Eh c k)) i)))) (HI (And (Aq (mE c)) (Rr (Aq (mE c)) (BW (YC (cX c)) 0) (Ar c) (AF (AT (BF c)) (Ag c) (Fe c) (AV (BF c)) (OI (XY c) (λ j=>cM j c) (YF c) (λ j=>Qk j c) LG BT (λ j=>aT c j) (ZS c) (Dr c))))))))) (λ i=>BU (GZ i (AN c) (Ql (Eh c i))) (EK (Ff i (AN c)) (sU (AO (MW i (Wg c)) (UZ Lx (BZ i) (HO (BZ i) (LP (Wg c)))) (dB (λ j=>HU (AR (RG c j) (Vu c i)) (EN (By j c) (Tb i)) (AK (AD (λ k=>SM k (By j c) (Wg c) (Si k))) (Sh j (Tb i)) (BR (IA j)) AI (CB (PB c j) (Eh c i)) AI (BW (YB c j) (Lg c i)) (Iw c) (Lk c (YD c j) (aM c i) c (AF (RQ c) (Sh j i) (AQ c) (AT c) (Fi c (BX c) c c (λ k=>BK k c) (Ar c) (MX (BF c) (Ag c) (Fe c) (XY c) (Rs c) (YF c) (gT c) (KM LG BT (Sm c) (UH c) (Dr c) (CB (PB c j) (Eh c i)) (λ k=>LS k (PB c j) (Eh c i)) (BW (YB c j) (Lg c i)) (λ k=>DB k (YB c j) (Fr c (HH j) k) (Fr c i k) (Fb c (HH j) k) (Fb c i k)))))))) (Fg (Sy j c) (Ty c j c i) (Tm j j) (λ k=>Qm k j (EF (fwP c (YD c j) (RG c j) (Vu c k))))) (Ql (PB c j)))) (Y7 (λ j=>BU (JR (Sy j c) (Ty c j c i) (Tm j j) (AD (λ k=>Qm k j (EF (fwP c (YD c j) (RG c j) (Vu c k))))) (Ql (PB c j))) (KS (HB (IA j) (Kj j)) (MW (IA j) (By j c)) (And (CD (Pv j c) (AN c)) (HF (JM (WK c (Pv j c)) (YD c j)) (AK (AR (Pr.a (Su j c c j)) (Pv j c)) (AR (Pr.b (Su j c c j)) (RG c j)) (Ar c) (AT (BF c)) (Ag c) (Fe c) (AV (BF c)) (BO (BF c)) (WY (BF c) LG (UH c) (Bz (Ar c) (BF c) (Ag c) (BF c) (CQ (BF c)) (λ k=>DG k (BF c)) (DH (BF c)) (QN (BF c) (λ k=>Lp k 40) BT (JI (BF c)) (UH c) (JK (BF c)) (XI (Pr.a (Su j c c j)) (mP c) (Pr.b (Su j c c j))) (GZ (DQ (BF c)) 40 (DJ (mP c) 20)) (AD (λ k=>ZK k (mP c) (NH (BF c) k) (DQ (BF c)))))))))) (Fu (ER (JM (WK c (Pv j c)) (YD c j)) (Xp (DK (BF c)) (Su j c c j))) (CD (RG c j) (AN c)) (EW (RE (And (PG (PB c j)) (IY 0 (PB c j) Am)) (Rw MG 1) TI (TX (FP (PB c j))) (Hd (FP (PB c j)) 8)) (Cb (YB c j) (YB c j)) Gk TI (TX (YB c j)) (PM (Bq (YB c j)))) (λ k=>AO (YV (EN (SH c k) (DF (FP (PB c j)))) AI (PL (It c k) (YB c j)) (Iw c) (Lk c (hZ c k) (PV (WK c (RG c j))) c (AF (RQ c) (NP k (HH j)) (AQ c) (AT c) (Fi c (BX c) c c (λ l=>BK l c) (Ar c) (MX (BF c) (Ag c) (Fe c) (XY c) (Rs c) (YF c) (gT c) (KM LG BT (Sm c) (UH c) (Dr c) (EN (SH c k) (DF (FP (PB c j)))) (λ l=>OB l (SH c k) (JP l (FP (PB c j)) (FK (PB c j) l) (PV (WK c (RG c j))))) (PL (It c k) (YB c j)) (λ l=>DB l (It c k) (Fr c (DF k) l) (JP l (YB c j) (Fr c (HH j) l) (Pv j c)) (Fb c (DF k) l) (JP l (YB c j) (Fb c (HH j) l) (RG c j))))))))) (Xi k c) (Yq (jA c k) c i) (Ql (SH c k))) (dB (λ k=>EB (AE (AR (RG c k) (RG c j)) (CB (By k c) (By j c)) (AK (CW (By k c) (By j c)) (No k j) (BD (IA k) (IA j)) AI (CB (PB c k) (PB c j)) AI (BW (YB c k) (YB c j)) (Iw c) (Lk c (YD c k) (YD c j) c (AF (RQ c) (No k j) (AQ c) (AT c) (Fi c (BX c) c c (λ l=>BK l c) (Ar c) (MX (BF c) (Ag c) (Fe c) (XY c) (Rs c) (YF c) (gT c) (KM LG BT (Sm c) (UH c) (Dr c) (CB (PB c k) (PB c j)) (λ l=>LS l (PB c k) (PB c j)) (BW (YB c k) (YB c j)) (λ l=>DB l (YB c k) (Fr c (HH k) l) (Fr c (HH j) l) (Fb c (HH k) l) (Fb c (HH j) l))))))))) (JR (Sy k c) (Ty c k c i) (Tm k k) (AD (λ l=>Qm l k (EF (fwP c (YD c k) (RG c k) (Vu c l))))) (Ql (PB c k))) (AN c) (IA k) (IA j)))) (GN (λ k=>AO (YV (CB (SH c k) (PB c j)) AI (BW (It c k) (YB c j)) (Iw c) (Lk c (hZ c k) (YD c j) c (AF (RQ c) (NP k (HH j)) (AQ c) (AT c) (Fi c (BX c) c c (λ l=>BK l c) (Ar c) (MX (BF c) (Ag c) (Fe c) (XY c) (Rs c) (YF c) (gT c) (KM LG BT (Sm c) (UH c) (Dr c) (CB (SH c k) (PB c j)) (λ l=>LS l (SH c k) (PB c j)) (BW (It c k) (YB c j)) (λ l=>DB l (It c k) (Fr c (DF k) l) (Fr c (HH j) l) (Fb c (DF k) l) (Fb c (HH j) l)))))))) (Xi k c) (Yq (jA c k) c i) (Ql (SH c k)))))))) (AD (λ j=>BU (AE (Xi j c) (Yq (jA c j) c i) (Ql (SH c j))) (GN (λ k=>MA (YV (CB (Eh c k) (SH c j)) AI (BW (Lg c k) (It c j)) (Iw c) (Lk c (aM c k) (hZ c j) c (AF (RQ c) (BD k j) (AQ c) (AT c) (Fi c (BX c) c c (λ l=>BK l c) (Ar c) (MX (BF c) (Ag c) (Fe c) (XY c) (Rs c) (YF c) (gT c) (KM LG BT (Sm c) (UH c) (Dr c) (CB (Eh c k) (SH c j)) (λ l=>LS l (Eh c k) (SH c j)) (BW (Lg c k) (It c j)) (λ l=>DB l (Lg c k) (Fr c k l) (Fr c (DF j) l) (Fb c k l) (Fb c (DF j) l)))))))) k (AN c) (Ql (Eh c k)) i))))) (HI (AO (CB (mE c) (Eh c i)) (LC (FP (Eh c i))) (AD (λ j=>SM j (mE c) (Eh c i) (BV j))) (HT (BW (YC (cX c)) (Lg c i)) (LC (Lg c i)) (AD (λ j=>DB j (YC (cX c)) (MF (cX c) j) (Fr c i (BV j)) (RT (cX c) j) (Fb c i (BV j)))) (BF c) (OI (XY c) (λ j=>cM j c) (YF c) (λ j=>Qk j c) LG BT (λ j=>aT c j) (ZS c) (Dr c)))))))) (ZI (AE (And (CB (sM c) (mE c)) (XZ (CW (sM c) (mE c)) (Ar c) (EX (BF c)) (Ag c) (NZ (Fe c) (AV (BF c)) (BO (BF c)) (BL (BF c)) (BE (BF c)) (BI (BF c)) (λ i=>Lp i 40) (AK (PE (BF c)) (UH c) (HL (BF c)) BT (EU (λ i=>TW (BF c) i (PK c) i)) (EU (λ i=>UF (ZS c) i (kZ (nE (BF c) c c) (sM c)) i)) (EU (λ i=>TR (BF c) i (PK c) i i i)) (FI (sM c)) (NQ (BF c)))))) (IR (AQ (PK c)) (AT (PK c)) (AP (PK c)) (AS (PK c)) (AV (PK c)) (BO (PK c)) (UW (PK c) (LQ (kZ (nE (BF c) c c) (sM c))) BT (EU (λ i=>TV (PK c) i (BF c) i)) (UH c) (EU (λ i=>UM (PK c) i (BF c) i i i)) (ZD (PK c) (CQ (PK c)) (λ i=>DG i (PK c)) (DH (PK c)) (QN (PK c) (λ i=>KZ i (kZ (nE (BF c) c c) (sM c))) BT (EU (λ i=>VI (BF c) i (PK c) i)) (UH c) (EU (λ i=>VL (BF c) i (PK c) i (PK c) i (PK c) i)) (QP (PK c)) (NQ (PK c)) (EU (λ i=>Cx (TL (PK c) i) i (PK c))))))) (EK (not (Ro (Vx (AOL (PK c) c (kZ (nE (BF c) c c) (sM c)))))) (sK (Aq (sP (zM c))) (BW (YC (tB (zM c))) 0) (AR (sL (zM c)) 6)) (XE (CB (sP (zM c)) (mE c)) (CW (sP (zM c)) (mE c)) (BW (YC (tB (zM c))) (YC (cX c))) (λ i=>DB i (YC (tB (zM c))) (MF (tB (zM c)) i) (MF (cX c) i) (RT (tB (zM c)) i) (RT (cX c) i)) (IQ (sL (zM c))))))))))) := by kernel_rfl
theorem BNK (a b : Int) : dPr (.agg [TT a, .v (.int .i64 b)]) = ⟨a, b⟩ := rfl
theorem AFC (c : Cht) : Dk.mk c (BA c).st (BA c).sp = BA c := rfl
theorem BOX {c : Cht} (h : nsIn c) : ∀ i, i < c.ns.length -> 0 <= (gD c.ns i).mi /\ (gD c.ns i).mi < c.ms.length := λ i hi => h _ (List.any_eq_true.2 ⟨_, TY hi, by simp⟩)
theorem AUN (n : Nat) : (idL n).length = n := by unfold idL; simp
theorem AHV (c : Cht) : (QV c).Perm (idL c.ns.length) := Wf _ _
theorem ABQ (c : Cht) : (QV c).length = c.ns.length := by rw [(AHV c).length_eq, AUN]
theorem BLE (c : Cht) {i : Nat} (hi : i < c.ns.length) : 0 <= gD (QV c) i /\ gD (QV c) i < c.ns.length := by
 have hm : gD (QV c) i ∈ idL c.ns.length := (AHV c).mem_iff.1 (TY (by rw [ABQ]; exact hi))
 obtain ⟨k, hk, e⟩ := YH hm
 rw [AUN] at hk
 have e2 : gD (idL c.ns.length) k = (k : Int) := FF _ _ _ hk
 rw [<- e, e2]; omega
theorem BNM {c : Cht} {k : Nat} (hk : k <= c.ns.length) (h : ∀ t, t < k -> fwP c (Mu c k).la (gD (QV c) k) (gD (QV c) t) = false) : Mu c (k + 1) = Mu c k := by
 show fwN c (Mu c k) _ (((QV c).take k).find? _) = _
 rw [AWD]
 ·rfl
 ·intro t ht
  have ht : t < k := by rw [List.length_take] at ht; omega
  rw [jD ht]; exact h t ht
theorem BQP {c : Cht} {k j : Nat} (hk : k <= c.ns.length) (hj : j < k) (h : ∀ t, t < j -> fwP c (Mu c k).la (gD (QV c) k) (gD (QV c) t) = false) (h2 : fwP c (Mu c k).la (gD (QV c) k) (gD (QV c) j) = true) : Mu c (k + 1) = ⟨wr (miA c (gD (QV c) k) - 1), (Mu c k).q ++ [wr (miA c (gD (QV c) k) - 1)], (Mu c k).r ++ [⟨gD (QV c) j, gD (QV c) k⟩]⟩ := by
 have e : (((QV c).take k).find? (fwP c (Mu c k).la (gD (QV c) k))) = some (gD ((QV c).take k) j) := AUA (by rw [List.length_take, ABQ]; omega) (λ t ht => by rw [jD (by omega)]; exact h t ht) (by rw [jD hj]; exact h2)
 show fwN c (Mu c k) _ (((QV c).take k).find? _) = _
 rw [e, jD hj]; rfl
theorem BEY (c : Cht) : ∀ k, (Mu c k).q.length <= k /\ (Mu c k).r.length = (Mu c k).q.length
 | 0 => ⟨Nat.le_refl _, rfl⟩
 | k + 1 => by
  obtain ⟨h1, h2⟩ := BEY c k
  show (fwN c (Mu c k) _ (((QV c).take k).find? _)).q.length <= _ /\ (fwN c (Mu c k) _ (((QV c).take k).find? _)).r.length = (fwN c (Mu c k) _ (((QV c).take k).find? _)).q.length
  cases ((QV c).take k).find? (fwP c (Mu c k).la (gD (QV c) k)) with
  | none => exact ⟨by show (Mu c k).q.length <= _; omega, h2⟩
  | some a =>
   refine ⟨?_, ?_⟩
   ·show ((Mu c k).q ++ [_]).length <= _
    rw [List.length_append]; simp; omega
   ·show ((Mu c k).r ++ [_]).length = ((Mu c k).q ++ [_]).length
    rw [List.length_append, List.length_append]; simp; omega
theorem AVH {α : Type} [Inhabited α] (l : List α) (x : α) (i : Nat) (h : i < l.length + 1) : gD (l ++ [x]) i = bif decide (i < l.length) then gD l i else x := by
 rw [Qo]
 by_cases h2 : i < l.length
 ·simp [h2]
 ·have : i - l.length = 0 := by omega
  rw [if_neg h2, this, decide_eq_false h2]; rfl
theorem BRO {key : Int -> Int} {l : List Int} (h : ∀ i j, i < j -> j < l.length -> key (gD l i) ≠ key (gD l j)) : ndk key l := List.pairwise_map.2 (List.pairwise_iff_getElem.2 λ i j hi hj hij => by
 have := h i j hij hj
 simpa [gD, List.getD_eq_getElem?_getD, hi, hj] using this)
theorem BKC {c : Cht} (h0 : AM c = 0) (hn : c.ns.length <= 14) {l : List Int} (hl : l.length = c.ns.length) (hI : ∀ i, i < c.ns.length -> gD l i = (i : Int)) : c.ns.length <= 12 ∨ (c.ns.length = 13 ∨ c.ns.length = 14) /\ ndk (KY c) l := by
 rcases Nat.lt_or_ge 12 c.ns.length with q | q
 ·refine .inr ⟨by omega, BRO λ i j hij hj => ?_⟩
  rw [hI i (by omega), hI j (by omega)]
  exact (QR.1 h0).one i j hij (by omega)
 ·exact .inl q
theorem BXO (c : Cht) (h1 : c.ms.length < 4611686018427387904 /\ c.ns.length < 4611686018427387904) (h0 : AM c = 0) (hn : 1 <= c.ns.length /\ c.ns.length <= 14) : BOT c := by
 have hl := IX h0
 have hs := Qu h0
 have hM := BOX hs.1
 have hO := ABQ c
 have hR := λ i (h : i < c.ns.length) => BLE c h
 have hF := BEY c
 rw [BSG]<;> delta KH wN ZR BG BJ EC MM NO Hc ES ET BW AD BU CL AR BZ SC DJ EK JH HO KB NL LO EJ GW EX HP HN HJ GT GB HC DU GG FE JW GN IH FP FK VV JL JM PW FY QC JV NY EU MP KI YM AL ZS JO Rm Fx En jV Vx Ro XH YC Ws lC dB HH IA Y7 Zy Wg ANU APW sP tB sL AE CR FA BB GA AF BF PX AY AU RA AG EM sU EZ BC FD Nc XG XA sQ sK Rr AX FC BM CJ AK AN DD BH HX BY BP CX Uf HZ BN CY BS CE HQ QX FU AV DA AQ EV DW QY AZ XZ LX DQ CP FT AS OT ZW FS DM AP ID AT BV EG CN BX NE GI CM HD CG IY GP GU OK EN DS DF FH HV AO AI DC Cn CK DT BT UR EL FV kZ DK CD NF EP HW EO DB FN CB FM dC KZ UV KM HF VU PV TL JB DZ ML Cs BD PH mE EA PG MB FQ PZ AOL FR ND IW Eh NH GJ LQ BE Mx DX FO FZ LL LP nE KL Ki NC APT JS GH TZ SV AOG BQ IC LM LB IM Ub sM OI SY Bi EW IQ HB BO EB DH CQ BK JF SM WU OB LS GY CS EE Yb EF GM GZ FI Lg Vu GF TV KP BR BI KQ BL HE PK RZ DG MK UL FW HU RT HM GC RG NB CW Jx NP ZK DI SE TD VI By MF YU QQ Wt aM Ln MG UZ RI PM DN HI QK ER PB JP Af Iw LG Es RC PE Lw PR KO LC HT UM QG UG TN HL JI VL KS SH Jp SN WT RQ NA MD TK LW SU JD IG RE MW UH QP JK GQ YF Lx PL NQ ZI JR Pv XY IR NU YD ZM WK nL YB Ag Gk Xi ZN Sv PO Ar Sh XI Ah QJ Ao Gl MA Bz Dr Yq Av lG Hd Fe XK TI XR Aq Fr Ns It Fb hU Mh TX UO MX QS Au Kq TC TQ UK XL YE Mc TH UB Ql Ch Kj XE UF TW Qk Et TU Sm Am Qb VW lX NZ MJ ZD UW UC Fq Rs YW Tp Cc WI Gx Lv Qm Tm UA XQ Lk No Cb Oa cX Sy Bq Si Tb Su UX Lp Hj Ff cM aT Hb YV aK Rw SO QN VA TR Hq TM gT Fu Ty Cx Gm hZ Fi UE Lq Fg jA Sx mP WY; simp only [CC, eq_self, implies_true, forall_const, CU, D1, Rz, API, AFC, BNK]
 have hI : ∀ i, i < c.ns.length -> gD (IK c.ns.length λ i => (i : Int)) i = (i : Int) := λ i hi => FF _ _ _ hi
 have hT : ∀ k j, j < k -> gD ((QV c).take k) j = gD (QV c) j := λ k j h => jD h
 have hTl : ∀ k, k <= c.ns.length -> ((QV c).take k).length = k := λ k h => by rw [List.length_take, hO]; omega
 have pre : ∀ x ∈ [0], True := λ _ _ => trivial
 refine ⟨⟨h1, h0⟩, ⟨⟨⟨default, trivial⟩, ?_, ?_⟩, λ _ => ⟨⟨⟨hI, BKC h0 hn.2 (rng_length _ _) hI, by omega, ?_⟩, default, hO, Nat.le_refl _, λ _ _ => rfl⟩, ⟨⟨0, ⟨rfl, by rw [hO], rfl⟩, Nat.zero_le _, rfl⟩, ?_, ?_⟩, ?_⟩⟩⟩
 ·refine ⟨λ _ => ⟨by decide, 1, ⟨rfl, by decide, rfl, λ i hi => by omega⟩, by omega, by omega⟩, λ h => h (by omega)⟩
 ·intro a ha
  refine ⟨λ h => ⟨⟨Nat.one_pos, (λ h => by cases h), by omega, by omega⟩, a + 1, ⟨rfl, by rw [Bc (by omega) (by omega)]; rfl, rfl, λ i hi => ?_⟩, by omega, by omega⟩, λ h => ⟨default, by omega, by omega⟩⟩
  by_cases h2 : i < a
  ·rw [decide_eq_true h2]; rfl
  ·rw [decide_eq_false h2]; show (i : Int) = a; omega
 ·intro i hi; rw [hI i hi]; omega
 ·rintro k ⟨hk, hq⟩
  refine ⟨λ h => ?_, λ h => ?_⟩
  ·have hk2 : k < c.ns.length := by omega
   refine ⟨⟨⟨by omega, by omega⟩, ⟨by omega, by omega, by omega⟩, ⟨⟨k, 0⟩, ⟨rfl, hTl k hk, λ i hi => ?_, rfl, rfl, rfl, rfl⟩, ⟨hk2, rfl, Nat.zero_le _, λ t ht => absurd ht (Nat.not_lt_zero _)⟩, hq⟩, ?_⟩, ?_, ?_⟩
   ·rw [hT _ _ (by have hi : i < ((QV c).take k).length := hi; rw [hTl k hk] at hi; exact hi), show Int.toNat 0 = 0 from rfl, Nat.zero_add]
   ·rintro y ⟨⟨y1, y2, y3, y4⟩, y5⟩
    have hp : ∀ j, j < y.i -> (bif decide ((gD c.ns (gD ((QV c).take y.i) j).toNat).mi > (Mu c y.i).la) then Xp c { a := gD ((QV c).take y.i) j, b := gD (QV c) y.i } else false) = fwP c (Mu c y.i).la (gD (QV c) y.i) (gD (QV c) j) := λ j hj => by rw [hT _ _ hj]; rfl
    refine ⟨λ hj => ⟨⟨by omega, by rw [hTl _ (by omega)]; exact hj⟩, ⟨by rw [hT _ _ (by omega)]; exact hR _ (by omega), λ _ => ⟨⟨by rw [hT _ _ (by omega)]; exact hR _ (by omega), hR _ y1⟩, ⟨hl.2.1.2, hl.2.2⟩, hM⟩⟩, λ hc => ?_, λ hc => ?_⟩, λ hj => ?_⟩
    ·rw [hp _ (by omega)] at hc
     have e := BQP (by omega) (by omega) y4 hc
     rw [hT _ _ (by omega)]
     have h8 : (Mu c y.i).r = [] := List.length_eq_zero_iff.1 (by rw [(hF y.i).2, y5]; rfl)
     refine ⟨hR _ y1, by decide, y.i, ?_, y1, y2, ?_⟩
     ·rw [e, y5, h8]
      refine ⟨rfl, rfl, rfl, rfl, rfl, λ i hi => ?_, rfl, λ i hi => ?_⟩
      ·have hi : i < 1 := hi
       obtain rfl : i = 0 := by omega
       rfl
      ·have hi : i < 1 := hi
       obtain rfl : i = 0 := by omega
       exact ⟨rfl, rfl⟩
     ·rw [e, y5]; exact Nat.one_pos
    ·rw [hp _ (by omega)] at hc
     have e : IntKind.i64.wrap ((y.j : Int) + 1) = ((y.j + 1 : Nat) : Int) := by rw [Bc (by omega) (by omega)]; rfl
     refine ⟨⟨y.i, y.j + 1⟩, ⟨rfl, rfl, λ _ _ => rfl, rfl, e.symm, rfl, rfl⟩, ⟨⟨y1, y2, by show y.j + 1 <= y.i; omega, λ t ht => ?_⟩, y5⟩, by show _ - (y.j + 1) < _; omega⟩
     have ht : t < y.j + 1 := ht
     by_cases h2 : t = y.j
     ·subst h2; exact hc
     ·exact y4 t (by omega)
    ·have e := BNM (by omega) (λ t (ht : t < y.i) => y4 t (by omega))
     refine ⟨y.i, ?_, y1, y2, ?_⟩
     ·rw [e]; exact ⟨rfl, rfl⟩
     ·rw [e]; exact y5
   ·rintro k' ⟨g1, g2, g3⟩
    refine ⟨k' + 1, ⟨rfl, by rw [Bc (by omega) (by omega)]; rfl⟩, ⟨by omega, g3⟩, by omega⟩
   ·rintro k' ⟨g1, g2, g3⟩
    refine ⟨k' + 1, ⟨rfl, rfl, rfl, by rw [Bc (by omega) (by omega)]; rfl, rfl, λ _ _ => rfl, rfl, λ _ _ => ⟨rfl, rfl⟩⟩, ⟨by omega, g3⟩, by omega⟩
  ·have e : k = c.ns.length := by omega
   have h8 : (Mu c k).r = [] := List.length_eq_zero_iff.1 (by rw [(hF k).2, hq]; rfl)
   subst e
   exact ⟨default, by show (Mu c _).q.length = 0; rw [hq]; rfl, by show (Mu c _).q.length = 0; rw [hq]; rfl, by show (Mu c _).r.length = 0; rw [h8]; rfl⟩
 ·rintro k ⟨hk, hq⟩
  refine ⟨λ h => ?_, λ h => ?_⟩
  ·have hk2 : k < c.ns.length := by omega
   refine ⟨⟨⟨by omega, by omega⟩, ⟨by omega, by omega, by omega⟩, ⟨⟨k, 0⟩, ⟨rfl, hTl k hk, λ i hi => ?_, rfl, rfl, rfl, rfl, rfl, rfl, rfl, λ _ _ => rfl, rfl, λ _ _ => ⟨rfl, rfl⟩⟩, ⟨hk2, rfl, Nat.zero_le _, λ t ht => absurd ht (Nat.not_lt_zero _)⟩, hq⟩, ?_⟩, ?_⟩
   ·rw [hT _ _ (by have hi : i < ((QV c).take k).length := hi; rw [hTl k hk] at hi; exact hi), show Int.toNat 0 = 0 from rfl, Nat.zero_add]
   ·rintro y ⟨⟨y1, y2, y3, y4⟩, y5⟩
    have hp : ∀ j, j < y.i -> (bif decide ((gD c.ns (gD ((QV c).take y.i) j).toNat).mi > (Mu c y.i).la) then Xp c { a := gD ((QV c).take y.i) j, b := gD (QV c) y.i } else false) = fwP c (Mu c y.i).la (gD (QV c) y.i) (gD (QV c) j) := λ j hj => by rw [hT _ _ hj]; rfl
    refine ⟨λ hj => ⟨⟨by omega, by rw [hTl _ (by omega)]; exact hj⟩, ⟨by rw [hT _ _ (by omega)]; exact hR _ (by omega), λ _ => ⟨⟨by rw [hT _ _ (by omega)]; exact hR _ (by omega), hR _ y1⟩, ⟨hl.2.1.2, hl.2.2⟩, hM⟩⟩, λ hc => ?_, λ hc => ?_⟩, λ hj => ?_⟩
    ·rw [hp _ (by omega)] at hc
     have e := BQP (by omega) (by omega) y4 hc
     rw [hT _ _ (by omega)]
     have h9 := hF y.i
     refine ⟨hR _ y1, ⟨⟨Nat.one_pos, (λ h => by cases h), by omega, by omega⟩, Nat.one_pos, (λ h => by cases h), by omega, by omega⟩, y.i, ?_, y1, y2, ?_⟩
     ·rw [e]
      refine ⟨by simp, by simp, rfl, rfl, by simp, λ i hi => ?_, by simp, λ i hi => ?_⟩
      ·exact AVH _ _ _ (by simpa using hi)
      ·have hi2 : i < (Mu c y.i).r.length + 1 := by simpa using hi
       show (gD ((Mu c y.i).r ++ [_]) i).a = _ /\ (gD ((Mu c y.i).r ++ [_]) i).b = _
       rw [AVH _ _ _ hi2]
       cases decide (i < (Mu c y.i).r.length) <;> exact ⟨rfl, rfl⟩
     ·rw [e]; simp
    ·rw [hp _ (by omega)] at hc
     have e : IntKind.i64.wrap ((y.j : Int) + 1) = ((y.j + 1 : Nat) : Int) := by rw [Bc (by omega) (by omega)]; rfl
     refine ⟨⟨y.i, y.j + 1⟩, ⟨rfl, rfl, λ _ _ => rfl, rfl, e.symm, rfl, rfl, rfl, rfl, rfl, λ _ _ => rfl, rfl, λ _ _ => ⟨rfl, rfl⟩⟩, ⟨⟨y1, y2, by show y.j + 1 <= y.i; omega, λ t ht => ?_⟩, y5⟩, by show _ - (y.j + 1) < _; omega⟩
     have ht : t < y.j + 1 := ht
     by_cases h2 : t = y.j
     ·subst h2; exact hc
     ·exact y4 t (by omega)
    ·have e := BNM (by omega) (λ t (ht : t < y.i) => y4 t (by omega))
     refine ⟨y.i, ?_, y1, y2, ?_⟩
     ·rw [e]; exact ⟨rfl, rfl, rfl, rfl, rfl, λ _ _ => rfl, rfl, λ _ _ => ⟨rfl, rfl⟩⟩
     ·rw [e]; exact y5
   ·rintro k' ⟨g1, g2, g3⟩
    refine ⟨k' + 1, ⟨rfl, rfl, rfl, by rw [Bc (by omega) (by omega)]; rfl, rfl, λ _ _ => rfl, rfl, λ _ _ => ⟨rfl, rfl⟩⟩, ⟨by omega, g3⟩, by omega⟩
  ·have e : k = c.ns.length := by omega
   subst e
   exact ⟨default, rfl, Nat.le_refl _, λ _ _ => rfl, rfl, Nat.le_refl _, λ _ _ => ⟨rfl, rfl⟩⟩
 ·have h9 := hF c.ns.length
  refine ⟨⟨λ _ => rfl, by have : (fwE c).q.length <= c.ns.length := h9.1; omega, hl.2.1.2⟩, ⟨hl.2.1.1, hl.2.1.2, hs.1⟩, λ hc => ?_, λ hc => ?_⟩
  ·have hc : (GD (fwW c)).2 = false := hc
   unfold zM; rw [hc]; exact ⟨rfl, rfl, rfl, rfl, rfl⟩
  ·have hc : (GD (fwW c)).2 = true := hc
   unfold zM; rw [hc]; exact ⟨rfl, λ _ _ => rfl, rfl, λ _ _ => ⟨rfl, rfl⟩, rfl⟩
def C_insZ : Ctr := { ro := [100], α := Cht, xs := λ _ => [.d Jn, .int 0, .int 0, .fn (.func WG) [] [.bptr 100 0]], L := λ c => [(100, sJ c)], val := λ _ => .d (.tup []), keep := λ c => [(100, .live (sJ c))] }
def BDO : List AVal -> Heap -> Option (Cht × List (Nat × Nat) × List Nat)
 | [.d _, _, _, .fn _ _ [.bptr id _]], H => match Fh H id with
  | some q => some (q, [(100, id)], [])
  | none => none
 | _, _ => none
def iz1 (c : Cht) : Shape := { α := One, dflt := default, T := λ _ => ⟨[(0, .d Jn), (1, .int 0), (2, .int 0), (3, .fn (.func WG) [] [.bptr 100 0]), (8, .int 1)], [(100, .live (sJ c))]⟩, inv := λ _ => True, meas := λ _ => 0 }
def BIC (c : Cht) : Ann := { ann 53 [] with E := [100], loops := λ id => if id = 1 then some [iz1 c] else none }
def BEB (c : Cht) : Prop := CH Try.prog (BIC c) AEB (AH AEB) (C_insZ.xs c) (AB (C_insZ.L c)) (C_insZ.val c) (C_insZ.keep c) [] []
theorem BJD (c : Cht) : (BEB c) = (PO (HI (VW (Rr FW BQ (AR (SC 1) (SC ((@HMod.hMod Nat Nat Nat (@instHMod Nat Nat.instMod)) (BV 1) (Int.natAbs (AID 2 (IntKind.bits NO)))))) (GR c)))) (GR c)) := by kernel_rfl
theorem BKW : AJ Try.prog V0 (C_insZ.spec BDO) := XP C_insZ BIC [] [] AUB (λ _ => by kernel_rfl) (λ _ => AC) (λ (c : Cht) _ => by
 show BEB c; rw [BJD]<;> delta KH ZR BG BJ EC NO ES ET BW AD BU CL AR SC EJ GW EX HP HN HJ GT GB HC DU GG FE IH QC Rm Fx AID AE CR BB AF AY AU AG BC FD Rr AX BM CJ AK AN DD BH BY CX CY BS CE AV AQ EV DW AZ CP AS AP AT BV BX NE CM HD CG AI KM ML DX BQ VT BK LV RM FW GR QQ HI Jp ZI PO VW; exact ⟨⟨default, by simp; rfl, trivial⟩, λ _ _ => by simp⟩) (λ _ => YS rfl rfl) _
def C_pdqZ : Ctr := { ro := [100], α := Cht, xs := λ _ => [.d Jn, .int 0, .int 0, .any, .fn (.func WG) [] [.bptr 100 0]], L := λ c => [(100, sJ c)], val := λ _ => .d (.tup []), keep := λ c => [(100, .live (sJ c))] }
def BDE : List AVal -> Heap -> Option (Cht × List (Nat × Nat) × List Nat)
 | [.d _, _, _, _, .fn _ _ [.bptr id _]], H => match Fh H id with
  | some q => some (q, [(100, id)], [])
  | none => none
 | _, _ => none
def pz2 (c : Cht) : Shape := { α := One, dflt := default, T := λ _ => ⟨[(0, .d Jn), (1, .int 0), (2, .int 0), (3, .any), (4, .fn (.func WG) [] [.bptr 100 0]), (10, .bool true), (11, .bool true)], [(100, .live (sJ c))]⟩, inv := λ _ => True, meas := λ _ => 0 }
def BFM (c : Cht) : Ann := { ann 148 [(V0, C_insZ.spec BDO)] with E := [100], loops := λ id => if id = 2 then some [pz2 c] else none }
def BGP (c : Cht) : Prop := CH Try.prog (BFM c) ADI (AH ADI) (C_pdqZ.xs c) (AB (C_pdqZ.L c)) (C_pdqZ.val c) (C_pdqZ.keep c) [] []
theorem BLZ (c : Cht) : (BGP c) = (PO (HI (Hj FW (sK BQ GF (GR c)))) (Ez (VW (Rr FW BQ (AQ c) (MX c (AP c) (AS c) (BO c) (BL c) (BE c) (BI c) (LV c c (CQ c) (λ i=>DG i c) (DH c) (λ i=>DI i c))))) c)) := by kernel_rfl
theorem BJU : AJ Try.prog Y0 (C_pdqZ.spec BDE) := XP C_pdqZ BFM [] [] ARC (λ _ => by kernel_rfl) (λ _ => AA BKW AC) (λ (c : Cht) _ => by
 show BGP c; rw [BLZ]<;> delta KH ZR BG BJ EC ES ET BW AD BU CL AR SC EJ GW EX HP HN HJ GT GB HC DU GG FE JW IH JL Rm Fx AE CR FA BB GA AF AY AU AG EM EZ BC FD XA sK Rr AX FC BM CJ AK AN DD BH BY BP CX BN CY BS CE FU AV DA AQ EV DW AZ DQ CP FT AS AP ID AT EG BX NE CM HD CG HV AI EL FV EP HW DB FN FM KM ML EA FQ NH BE DX FO FZ KL NC GH BQ IC LM VT BO DH CQ BK GY CS EE LV GF BI BL DG RM FW GR DI QQ HI Jp WT ZI PO MX VW Ez Hj; simp only [CC, eq_self, implies_true, forall_const]; exact ⟨default, trivial⟩) (λ _ => YS rfl rfl) _
def C_sortZ : Ctr := { ro := [100], α := Cht, xs := λ _ => [.d Jn, .fn (.func WG) [] [.bptr 100 0]], L := λ c => [(100, sJ c)], val := λ _ => .d (.tup []), keep := λ c => [(100, .live (sJ c))] }
def AVR : List AVal -> Heap -> Option (Cht × List (Nat × Nat) × List Nat)
 | [.d _, .fn _ _ [.bptr id _]], H => match Fh H id with
  | some q => some (q, [(100, id)], [])
  | none => none
 | _, _ => none
def AWX : Ann := { ann 14 [(C7, AGZ), (Y0, C_pdqZ.spec BDE)] with E := [100] }
def AWY (c : Cht) : Prop := CH Try.prog AWX iJ (AH iJ) (C_sortZ.xs c) (AB (C_sortZ.L c)) (C_sortZ.val c) (C_sortZ.keep c) [] []
theorem BIQ (c : Cht) : (AWY c) = (Ez (AE (Se (Bv (BZ 0)) (HO (Bv (BZ 0)) 20)) AI (Rr FW BQ (AQ c) (MX c (AP c) (AS c) (BO c) (BL c) (BE c) (BI c) (LV c c (CQ c) (λ i=>DG i c) (DH c) (λ i=>DI i c))))) c) := by kernel_rfl
theorem BDA : AJ Try.prog yW (C_sortZ.spec AVR) := XP C_sortZ (λ _ => AWX) [] [] ACG (λ _ => by kernel_rfl) (λ _ => AA BDD (AA BJU AC)) (λ (c : Cht) _ => by
 show AWY c; rw [BIQ]<;> delta KH ZR BG BJ EC MM ES ET BW AD BU CL AR BZ SC HO EJ GW EX HP HN HJ GT GB HC DU GG FE JW AE CR FA BB GA AF AY AU AG EM EZ BC FD Rr AX FC BM CJ AK AN DD BH BY BP CX BN CY BS CE FU AV DA AQ EV DW AZ DQ CP FT AS AP ID AT EG CN BX NE CM HD CG HV AI EL FV EP HW DB FN FM KM ML EA FQ NH BE DX FO FZ KL NC GH BQ IC LM VT BO DH CQ BK GY CS EE LV BI BL DG RM FW GR DI WT Bv Se MX Ez; simp only [CC, eq_self, implies_true, forall_const]; rw [u64w (by omega) (by omega)]; omega) (λ _ => YS rfl rfl) _
def fz6 (c : Cht) : Shape := { α := One, dflt := default, T := λ _ => ⟨(7, .d Jn) :: fw6S c 0, fwH c⟩, inv := λ _ => c.ns.length = 0, meas := λ _ => 60, first := fwR }
def fz15 (c : Cht) : Shape := { α := One, dflt := default, T := λ _ => ⟨ATW ++ [(1, .bptr 201 0), (5, .bptr 203 0), (7, .d Jn), (11, .int (-1)), (41, .d Jn), (42, .int 0), (43, .int 0)], fwH c⟩, inv := λ _ => c.ns.length = 0, meas := λ _ => 60 }
def BEV (c : Cht) : Ann := { ann 101 [(ZZ, C_open.spec kM), (yW, C_sortZ.spec AVR), (ACR, C_stop.spec dDkZ), (Up, C_times.spec Ze)] with loops := λ id => if id = 6 then some [fz6 c] else if id = 15 then some [fz15 c] else none }
def BGJ (c : Cht) : Prop := CH Try.prog (BEV c) Yt (AH Yt) [.d (Dj c)] (AB []) (.tup [.d (DV (zM c).q), .d (eO (zM c).r), .int (zM c).e]) [] [] []
abbrev yE (c : Cht) : List Mk := IK c.ms.length λ (i : Nat) => gD c.ms i
abbrev nG (c : Cht) : Nat := (yE c).length
abbrev ABE (c : Cht) : Prop := nG c = c.ms.length
abbrev AFQ (c : Cht) (i : Nat) : Mk := gD (yE c) i
abbrev AFP (c : Cht) (i : Nat) : Int := (AFQ c i).pl
abbrev ACM (c : Cht) (i : Nat) : Int := (AFQ c i).ht
abbrev ADP (c : Cht) : Prop := ∀ (i : Nat), i < nG c -> AFP c i = (gD c.ms i).pl /\ ACM c i = (gD c.ms i).ht
abbrev zA (c : Cht) : List Nt := IK c.ns.length λ (i : Nat) => gD c.ns i
abbrev oG (c : Cht) : Nat := (zA c).length
abbrev AGF (c : Cht) : Prop := oG c = c.ns.length
abbrev rM (c : Cht) (i : Nat) : Nt := gD (zA c) i
abbrev Q5 (c : Cht) (i : Nat) : Int := (rM c i).mi
abbrev H7 (c : Cht) (i : Nat) : Span := (rM c i).t
abbrev F9 (c : Cht) (i : Nat) : Int := (H7 c i).lo
abbrev zZ (c : Cht) (i : Nat) : Int := (H7 c i).hi
abbrev P1 (c : Cht) (i : Nat) : Span := (rM c i).s
abbrev R5 (c : Cht) (i : Nat) : Int := (P1 c i).lo
abbrev N1 (c : Cht) (i : Nat) : Int := (P1 c i).hi
abbrev P4 (c : Cht) : Prop := ∀ (i : Nat), i < oG c -> Q5 c i = (gD c.ns i).mi /\ F9 c i = (gD c.ns i).t.lo /\ zZ c i = (gD c.ns i).t.hi /\ R5 c i = (gD c.ns i).s.lo /\ N1 c i =
 (gD c.ns i).s.hi
abbrev R9 (c : Cht) : Cht := Cht.mk c.p c.base c.scale c.off (yE c) (zA c)
abbrev Ec : Prop := (0 : Nat) = (0 : Nat)
abbrev Oy : Prop := ∀ (i : Nat), i < (0 : Nat) -> false = false
abbrev oK : Prop := Int.ofNat (0 : Nat) = Int.ofNat (0 : Nat)
abbrev S5 (c : Cht) : Prop := c.ms.length = c.ms.length
abbrev T1 (c : Cht) : Prop := ∀ (i : Nat), i < c.ms.length -> (gD c.ms i).pl = (gD c.ms i).pl /\ (gD c.ms i).ht = (gD c.ms i).ht
abbrev K6 (c : Cht) : Prop := c.ns.length = c.ns.length
abbrev K2 (c : Cht) : Prop := ∀ (i : Nat), i < c.ns.length -> (gD c.ns i).mi = (gD c.ns i).mi /\ (gD c.ns i).t.lo = (gD c.ns i).t.lo /\ (gD c.ns i).t.hi = (gD c.ns i).t.hi /\ (gD c.ns i).s.lo = (gD c.ns i).s.lo /\ (gD
 c.ns i).s.hi = (gD c.ns i).s.hi
abbrev M0 (c : Cht) : Dk := BA (R9 c)
abbrev Ny (c : Cht) : Cht := (M0 c).c
abbrev N3 (c : Cht) : Span := (Ny c).p
abbrev K3 (c : Cht) : List Mk := (Ny c).ms
abbrev E9 (i : Nat) (c : Cht) : Prop := i < (BA c).c.ms.length
abbrev I6 (c : Cht) (i : Nat) : Mk := gD (K3 c) i
abbrev fG (c : Cht) : List Nt := (Ny c).ns
abbrev Q9 (i : Nat) (c : Cht) : Prop := i < (BA c).c.ns.length
abbrev oW (c : Cht) (i : Nat) : Nt := gD (fG c) i
abbrev dJ (c : Cht) (i : Nat) : Int := (gD (BA c).c.ns i).t.lo
abbrev E0 (c : Cht) (i : Nat) : Span := (oW c i).t
abbrev eS (c : Cht) (i : Nat) : Int := (gD (BA c).c.ns i).t.hi
abbrev dW (c : Cht) (i : Nat) : Int := (gD (BA c).c.ns i).s.lo
abbrev O3 (c : Cht) (i : Nat) : Span := (oW c i).s
abbrev dH (c : Cht) (i : Nat) : Int := (gD (BA c).c.ns i).s.hi
abbrev Va : Prop := ∀ (i : Nat), i < (40 : Nat) -> false = false
abbrev rQ (c : Cht) (n : Int) : Nt := ntOf (fG c) n
abbrev D6 (c : Cht) (n : Int) : Span := (rQ c n).t
abbrev G1 (c : Cht) (n : Int) : Span := (rQ c n).s
abbrev eI (c : Cht) : Prop := c.ns.length = (0 : Nat)
abbrev H9 : Prop := (0 : Nat) < (1 : Nat)
abbrev R6 (c : Cht) : Prop := (BA c).c.p.lo = (BA c).c.p.lo
abbrev C0 (c : Cht) : Prop := (BA c).c.p.hi = (BA c).c.p.hi
abbrev K9 (c : Cht) : Prop := (BA c).c.base = (BA c).c.base
abbrev A1 (c : Cht) : Prop := (BA c).c.scale = (BA c).c.scale
abbrev B7 (c : Cht) : Prop := (BA c).c.off = (BA c).c.off
abbrev dS (c : Cht) : Prop := ∀ (n : Int), (BA c).st n = (BA c).st n
abbrev pX (c : Cht) : List Mk := IK (BA c).c.ms.length λ (i : Nat) => gD (BA c).c.ms i
abbrev rK (c : Cht) : Nat := (pX c).length
abbrev H4 (c : Cht) (i : Nat) : Mk := gD (pX c) i
abbrev Ux (c : Cht) : List Nt := IK (BA c).c.ns.length λ (i : Nat) => gD (BA c).c.ns i
abbrev L5 (c : Cht) : Nat := (Ux c).length
abbrev oM (c : Cht) (i : Nat) : Nt := gD (Ux c) i
abbrev U8 (c : Cht) (i : Nat) : Span := (oM c i).t
abbrev S6 (c : Cht) (i : Nat) : Span := (oM c i).s
abbrev rV (c : Cht) (n : Int) : Nt := ntOf (Ux c) n
abbrev J4 (c : Cht) (n : Int) : Span := (rV c n).t
abbrev S4 (c : Cht) (n : Int) : Span := (rV c n).s
abbrev oV (c : Cht) : Dk := stD (DkZ.mk (Dk.mk (Cht.mk (BA c).c.p (BA c).c.base (BA c).c.scale (BA c).c.off (pX c) (Ux c)) (BA c).st (BA c).sp) (IK (0 : Nat) λ (i : Nat) => default))
abbrev Ok (c : Cht) : Cht := (oV c).c
abbrev dE (c : Cht) : List Nt := (Ok c).ns
abbrev pY (c : Cht) (n : Int) : Nt := ntOf (dE c) n
abbrev I5 (c : Cht) (n : Int) : Span := (pY c n).t
abbrev L1 (c : Cht) (n : Int) : Span := (pY c n).s
abbrev rL (c : Cht) : Span := (Ok c).p
abbrev L9 (c : Cht) : Int := (rL c).lo
abbrev O8 (c : Cht) : Prop := L9 c = L9 c
abbrev S2 (c : Cht) : Int := (rL c).hi
abbrev F2 (c : Cht) : Prop := S2 c = S2 c
abbrev rI (c : Cht) : Int := (Ok c).base
abbrev G6 (c : Cht) : Prop := rI c = rI c
abbrev pN (c : Cht) : Int := (Ok c).scale
abbrev J6 (c : Cht) : Prop := pN c = pN c
abbrev rO (c : Cht) : Int := (Ok c).off
abbrev S1 (c : Cht) : Prop := rO c = rO c
abbrev zX (c : Cht) : List Mk := (Ok c).ms
abbrev dX (c : Cht) : Nat := (zX c).length
abbrev qK (c : Cht) (i : Nat) : Mk := gD (zX c) i
abbrev qW (c : Cht) : List Mk := IK (dX c) λ (i : Nat) => qK c i
abbrev Pp (c : Cht) : Nat := (qW c).length
abbrev I1 (c : Cht) (i : Nat) : Mk := gD (qW c) i
abbrev C3 (c : Cht) (i : Nat) : Int := (I1 c i).pl
abbrev O0 (c : Cht) (i : Nat) : Int := (qK c i).pl
abbrev N7 (c : Cht) (i : Nat) : Int := (I1 c i).ht
abbrev H8 (c : Cht) (i : Nat) : Int := (qK c i).ht
abbrev dI (c : Cht) : Nat := (dE c).length
abbrev dN (c : Cht) (i : Nat) : Nt := gD (dE c) i
abbrev Ve (c : Cht) : List Nt := IK (dI c) λ (i : Nat) => dN c i
abbrev oR (c : Cht) : Nat := (Ve c).length
abbrev rF (c : Cht) (i : Nat) : Nt := gD (Ve c) i
abbrev Q6 (c : Cht) (i : Nat) : Int := (rF c i).mi
abbrev Q0 (c : Cht) (i : Nat) : Int := (dN c i).mi
abbrev C4 (c : Cht) (i : Nat) : Span := (rF c i).t
abbrev vR (c : Cht) (i : Nat) : Int := (C4 c i).lo
abbrev vU (c : Cht) (i : Nat) : Span := (dN c i).t
abbrev uM (c : Cht) (i : Nat) : Int := (vU c i).lo
abbrev vZ (c : Cht) (i : Nat) : Int := (C4 c i).hi
abbrev vY (c : Cht) (i : Nat) : Int := (vU c i).hi
abbrev uA (c : Cht) (i : Nat) : Span := (rF c i).s
abbrev uC (c : Cht) (i : Nat) : Int := (uA c i).lo
abbrev vC (c : Cht) (i : Nat) : Span := (dN c i).s
abbrev uG (c : Cht) (i : Nat) : Int := (vC c i).lo
abbrev wE (c : Cht) (i : Nat) : Int := (uA c i).hi
abbrev uD (c : Cht) (i : Nat) : Int := (vC c i).hi
abbrev gC (c : Cht) (n : Int) : Bool := hasN (Ve c) n
abbrev iL (c : Cht) (n : Int) : Nt := ntOf (Ve c) n
abbrev vM (c : Cht) (n : Int) : Int := (iL c n).mi
abbrev vJ (c : Cht) (n : Int) : Span := (iL c n).t
abbrev vF (c : Cht) (n : Int) : Int := (vJ c n).lo
abbrev tX (c : Cht) (n : Int) : Int := (vJ c n).hi
abbrev wF (c : Cht) (n : Int) : Span := (iL c n).s
abbrev vT (c : Cht) (n : Int) : Int := (wF c n).lo
abbrev tU (c : Cht) (n : Int) : Int := (wF c n).hi
abbrev Yp (c : Cht) : Prop := (zM c).q.length = (0 : Nat)
abbrev Yy (c : Cht) : Prop := (zM c).r.length = (0 : Nat)
theorem BKF (c : Cht) : (BGJ c) = ((c.p.lo = c.p.lo /\ c.p.hi = c.p.hi /\ c.base = c.base /\ c.scale = c.scale /\ c.off = c.off /\ ABE c /\ ADP c /\ AGF c /\ P4 c /\ (nG c < (4611686018427387904
 : Nat) /\ oG c < (4611686018427387904 : Nat)) /\ AM (R9 c) = (0 : Int)) /\ (∃ (a : One), (Ec /\ Oy /\ (↑c.ns.length : Int) = (↑c.ns.length : Int) /\ oK /\ c.p.lo = c.p.lo /\ c.p.hi = c.p.hi
 /\ c.base = c.base /\ c.scale = c.scale /\ c.off = c.off /\ S5 c /\ T1 c /\ K6 c /\ K2 c /\ (BA c).c.p.lo = (N3 c).lo /\ (BA c).c.p.hi = (N3 c).hi /\ (BA c).c.base = (Ny
 c).base /\ (BA c).c.scale = (Ny c).scale /\ (BA c).c.off = (Ny c).off /\ (BA c).c.ms.length = (K3 c).length /\ (∀ (i : Nat), E9 i c -> (gD (BA c).c.ms i).pl = (I6 c i).pl /\ (gD (BA
 c).c.ms i).ht = (I6 c i).ht) /\ (BA c).c.ns.length = (fG c).length /\ (∀ (i : Nat), Q9 i c -> (gD (BA c).c.ns i).mi = (oW c i).mi /\ dJ c i = (E0 c i).lo /\ eS c i =
 (E0 c i).hi /\ dW c i = (O3 c i).lo /\ dH c i = (O3 c i).hi) /\ Va /\ gH = gH /\ (∀ (n : Int), hasN (BA c).c.ns n = hasN (fG c) n) /\ (∀ (n : Int), (BA c).st n =
 (M0 c).st n) /\ ∀ (n : Int), (ntOf (BA c).c.ns n).mi = (rQ c n).mi /\ (ntOf (BA c).c.ns n).t.lo = (D6 c n).lo /\ (ntOf (BA c).c.ns n).t.hi = (D6 c n).hi /\ (ntOf (BA c).c.ns n).s.lo =
 (G1 c n).lo /\ (ntOf (BA c).c.ns n).s.hi = (G1 c n).hi) /\ eI c) /\ ∀ (a : One), eI c -> bif decide ((↑(0 : Nat) : Int) < (↑c.ns.length : Int)) then ((True /\ ((0 : Nat) < (0 : Nat) -> (0 : Nat) =
 (1 : Nat))) /\ ((1 : Nat) <= (1 : Nat) /\ (H9 -> (1 : Nat) = (1 : Nat))) /\ (false = true -> H9) /\ (1 : Nat) <= (9223372036854775807 : Nat) /\ (8 : Nat) <= (140737488355328 : Nat)) /\ False else (Ec /\
 Oy /\ c.p.lo = c.p.lo /\ c.p.hi = c.p.hi /\ c.base = c.base /\ c.scale = c.scale /\ c.off = c.off /\ ABE c /\ ADP c /\ AGF c /\ P4 c /\ c.p.lo = c.p.lo /\ c.p.hi = c.p.hi /\ c.base = c.base /\ c.scale =
 c.scale /\ c.off = c.off /\ c.ms.length = nG c /\ (∀ (i : Nat), i < c.ms.length -> (gD c.ms i).pl = AFP c i /\ (gD c.ms i).ht = ACM c i) /\ c.ns.length = oG c /\ ∀ (i : Nat), i < c.ns.length -> (gD c.ns
 i).mi = Q5 c i /\ (gD c.ns i).t.lo = F9 c i /\ (gD c.ns i).t.hi = zZ c i /\ (gD c.ns i).s.lo = R5 c i /\ (gD c.ns i).s.hi = N1 c i) /\ (∃ (a : One), (Ec /\ Oy /\ Ec /\
 Oy /\ Ec /\ Oy /\ Int.negSucc (0 : Nat) = Int.negSucc (0 : Nat) /\ Ec /\ Oy /\ oK /\ oK /\ c.p.lo = c.p.lo /\ c.p.hi = c.p.hi /\ c.base = c.base /\ c.scale = c.scale /\ c.off = c.off
 /\ S5 c /\ T1 c /\ K6 c /\ K2 c /\ R6 c /\ C0 c /\ K9 c /\ A1 c /\ B7 c /\ (BA c).c.ms.length = (BA c).c.ms.length /\ (∀ (i : Nat), E9 i c -> (gD (BA
 c).c.ms i).pl = (gD (BA c).c.ms i).pl /\ (gD (BA c).c.ms i).ht = (gD (BA c).c.ms i).ht) /\ (BA c).c.ns.length = (BA c).c.ns.length /\ (∀ (i : Nat), Q9 i c -> (gD (BA c).c.ns i).mi = (gD (BA c).c.ns i).mi
 /\ dJ c i = dJ c i /\ eS c i = eS c i /\ dW c i = dW c i /\ dH c i = dH c i) /\ Va /\ gH = gH /\ (∀ (n : Int), hasN (BA c).c.ns n = hasN (BA c).c.ns n) /\
 dS c /\ ∀ (n : Int), (ntOf (BA c).c.ns n).mi = (ntOf (BA c).c.ns n).mi /\ (ntOf (BA c).c.ns n).t.lo = (ntOf (BA c).c.ns n).t.lo /\ (ntOf (BA c).c.ns n).t.hi = (ntOf (BA c).c.ns n).t.hi /\ (ntOf (BA
 c).c.ns n).s.lo = (ntOf (BA c).c.ns n).s.lo /\ (ntOf (BA c).c.ns n).s.hi = (ntOf (BA c).c.ns n).s.hi) /\ eI c) /\ ∀ (a : One), eI c -> (Ec /\ Ec /\ R6 c /\ C0 c /\ K9 c /\
 A1 c /\ B7 c /\ rK c = (BA c).c.ms.length /\ (∀ (i : Nat), i < rK c -> (H4 c i).pl = (gD (BA c).c.ms i).pl /\ (H4 c i).ht = (gD (BA c).c.ms i).ht) /\ L5 c = (BA
 c).c.ns.length /\ (∀ (i : Nat), i < L5 c -> (oM c i).mi = (gD (BA c).c.ns i).mi /\ (U8 c i).lo = dJ c i /\ (U8 c i).hi = eS c i /\ (S6 c i).lo = dW c i /\ (S6 c
 i).hi = dH c i) /\ Va /\ gH = gH /\ (∀ (n : Int), hasN (Ux c) n = hasN (BA c).c.ns n) /\ dS c /\ (∀ (n : Int), (rV c n).mi = (ntOf (BA c).c.ns n).mi /\ (J4 c n).lo = (ntOf (BA
 c).c.ns n).t.lo /\ (J4 c n).hi = (ntOf (BA c).c.ns n).t.hi /\ (S4 c n).lo = (ntOf (BA c).c.ns n).s.lo /\ (S4 c n).hi = (ntOf (BA c).c.ns n).s.hi) /\ gH = gH /\ (∀ (n : Int), hasN (BA c).c.ns n =
 hasN (dE c) n) /\ (∀ (n : Int), (BA c).st n = (oV c).st n) /\ (∀ (n : Int), (ntOf (BA c).c.ns n).mi = (pY c n).mi /\ (ntOf (BA c).c.ns n).t.lo = (I5 c n).lo /\ (ntOf (BA c).c.ns n).t.hi =
 (I5 c n).hi /\ (ntOf (BA c).c.ns n).s.lo = (L1 c n).lo /\ (ntOf (BA c).c.ns n).s.hi = (L1 c n).hi) /\ (0 : Nat) < (4611686018427387904 : Nat) /\ rK c <= (40 : Nat)) /\ (O8 c /\ F2 c
 /\ G6 c /\ J6 c /\ S1 c /\ Pp c = dX c /\ (∀ (i : Nat), i < Pp c -> C3 c i = O0 c i /\ N7 c i = H8 c i) /\ oR c = dI c /\ (∀ (i : Nat), i <
 oR c -> Q6 c i = Q0 c i /\ vR c i = uM c i /\ vZ c i = vY c i /\ uC c i = uG c i /\ wE c i = uD c i) /\ Va /\ gH = gH /\ (∀ (n : Int),
 gC c n = hasN (BA c).c.ns n) /\ dS c /\ (∀ (n : Int), vM c n = (ntOf (BA c).c.ns n).mi /\ vF c n = (ntOf (BA c).c.ns n).t.lo /\ tX c n = (ntOf (BA c).c.ns n).t.hi /\ vT c
 n = (ntOf (BA c).c.ns n).s.lo /\ tU c n = (ntOf (BA c).c.ns n).s.hi) /\ O8 c /\ F2 c /\ G6 c /\ J6 c /\ S1 c /\ dX c = Pp c /\ (∀ (i : Nat), i < dX c ->
 O0 c i = C3 c i /\ H8 c i = N7 c i) /\ dI c = oR c /\ (∀ (i : Nat), i < dI c -> Q0 c i = Q6 c i /\ uM c i = vR c i /\ vY c i = vZ c
 i /\ uG c i = uC c i /\ uD c i = wE c i) /\ Va /\ gH = gH /\ (∀ (n : Int), hasN (BA c).c.ns n = gC c n) /\ dS c /\ (∀ (n : Int), (ntOf (BA c).c.ns n).mi = vM c
 n /\ (ntOf (BA c).c.ns n).t.lo = vF c n /\ (ntOf (BA c).c.ns n).t.hi = tX c n /\ (ntOf (BA c).c.ns n).s.lo = vT c n /\ (ntOf (BA c).c.ns n).s.hi = tU c n) /\ (1 : Nat) <= Pp c /\
 Pp c <= (40 : Nat) /\ ∀ (j : Int), gC c j = true -> (0 : Int) <= j /\ j < (↑(Pp c) : Int)) /\ bif !(GD (Dk.mk (Cht.mk (rL c) (rI c) (pN c) (rO c) (qW c) (Ve
 c)) (BA c).st (oV c).sp)).snd then Yp c /\ Yp c /\ Yy c /\ Yy c /\ (zM c).e = (6 : Int) else Yp c /\ Yp c /\ Yy c /\ Yy c /\ (zM c).e = (0 : Int)) := by
 kernel_rfl
def BBD : Ann := ann 101 [(ZZ, C_openX.spec kM)]
def AZY (c : Cht) : Prop := CH Try.prog BBD Yt (AH Yt) [.d (Dj c)] (AB []) (.tup [.d (DV nilI), .d (eO nilP), .int (AM c)]) [] [] []
abbrev Zz a b:=lT a a b
attribute [go_sem] Zz
theorem BKJ (c : Cht) : (AZY c) = (SK (ZP c c (UE c (BO c) c c (Gm c c) (RO (WV c)))) (WV c) (Zz AI (Hs c (WV c))) JV) := by kernel_rfl
theorem BSF (c : Cht) (h1 : c.ms.length < 4611686018427387904 /\ c.ns.length < 4611686018427387904) (h0 : AM c = 0) (hn : c.ns.length = 0) : BGJ c := by
 have hl := IX h0
 have hs := Qu h0
 rw [BKF]; delta yE nG ABE AFQ AFP ACM ADP zA oG AGF rM Q5 H7 F9 zZ P1 R5 N1 P4 R9 Ec Oy oK S5 T1 K6 K2 M0 Ny N3 K3 E9 I6 fG Q9 oW dJ E0 eS dW O3 dH Va rQ D6 G1 eI H9 R6 C0 K9 A1 B7 dS pX rK H4 Ux L5 oM U8 S6 rV J4 S4 oV Ok dE pY I5 L1 rL L9 O8 S2 F2 rI G6 pN J6 rO S1 zX dX qK qW Pp I1 C3 O0 N7 H8 dI dN Ve oR rF Q6 Q0 C4 vR vU uM vZ vY uA uC vC uG wE uD gC iL vM vJ vF tX wF vT tU Yp Yy; simp only [CC, eq_self, implies_true, forall_const, CU, D1, Rz, API, AFC]
 have hq : (fwE c).q = [] := by unfold fwE; rw [hn]; rfl
 have hr : (fwE c).r = [] := by unfold fwE; rw [hn]; rfl
 refine ⟨⟨h1, h0⟩, ⟨default, hn⟩, λ _ => ⟨λ h => by omega, λ _ => ⟨⟨default, hn⟩, λ _ => ⟨⟨λ n => rfl, by decide, hl.2.1.2⟩, ⟨hl.2.1.1, hl.2.1.2, hs.1⟩, λ hc => ?_, λ hc => ?_⟩⟩⟩⟩
 ·have hc : (GD (stD ⟨BA c, []⟩)).2 = false := hc
  have hc : (GD (fwW c)).2 = false := by unfold fwW; rw [hq]; exact hc
  unfold zM; rw [hc]; exact ⟨rfl, rfl, rfl, rfl, rfl⟩
 ·have hc : (GD (stD ⟨BA c, []⟩)).2 = true := hc
  have hc : (GD (fwW c)).2 = true := by unfold fwW; rw [hq]; exact hc
  unfold zM; rw [hc]
  exact ⟨by show (fwE c).q.length = 0; rw [hq]; rfl, by show (fwE c).q.length = 0; rw [hq]; rfl, by show (fwE c).r.length = 0; rw [hr]; rfl, by show (fwE c).r.length = 0; rw [hr]; rfl, rfl⟩
theorem BAH : AJ Try.prog ACD (C_few.spec kM) := okT C_few (λ (c : Cht) h => by
 obtain ⟨h1, h2⟩ : (c.ms.length < 4611686018427387904 /\ c.ns.length < 4611686018427387904) /\ (AM c = 0 -> c.ns.length <= 14) := h
 by_cases h0 : AM c = 0
 ·have e : C_few.val c = .tup [.d (DV (zM c).q), .d (eO (zM c).r), .int (zM c).e] := by
   show AVal.tup [.d (DV (sC c).q), .d (eO (sC c).r), .int (sC c).e] = _
   unfold sC; rw [h0]; rfl
  rw [e]
  rcases Nat.eq_zero_or_pos c.ns.length with hz | hp
  ·exact Hp (A := BEV c) (L := []) (keep := []) (ren := []) (fz := []) A0 (by kernel_rfl) (AA zB (AA BDA (AA AIV (AA nT AC)))) (BSF c h1 h0 hz)
  ·exact Hp (A := BQY c) (L := []) (keep := []) (ren := []) (fz := []) A0 (by kernel_rfl) (AA zB (AA BRG (AA AVX (AA AIV (AA nT AC))))) (BXO c h1 h0 ⟨hp, h2 h0⟩)
 ·have h0' : (AM c == 0) = false := by simpa using h0
  have e : C_few.val c = .tup [.d (DV nilI), .d (eO nilP), .int (AM c)] := by
   show AVal.tup [.d (DV (sC c).q), .d (eO (sC c).r), .int (sC c).e] = _
   unfold sC; rw [h0']; rfl
  rw [e]
  refine Hp (A := BBD) (L := []) (keep := []) (ren := []) (fz := []) A0 (by kernel_rfl) (AA yN AC) ?_
  show AZY c; rw [BKJ]<;> delta BG BJ EC ES ET BW AD BU CL AR EK EJ GW EX HP HN HJ GT GB HC DU GG FE JW PW NJ JV Jf AE CR FA BB GA AF AY AU AG EM EZ BC XG lT Zz AX FC BM CJ AK AN DD BH HX BY BP CX HZ BN CY BS CE FU AV DA AQ AZ LX DQ CP FT AS AP ID AT EG CM HV AI DT EL FV DK EP HW DB FN FM EA FQ BE FO FZ GH IC BO CS EE BL HM HG JZ MD Hs WV Ch Fc RO SK XQ Oa ZP Gm UE; simp only [CC, eq_self, implies_true, forall_const, CU]
  simp [h1, h0, nilI, nilP]) _
def C_Stops : Ctr := { α := Cht, xs := λ c => [.d (Dj c)], val := λ c => .tup [.d (DV (sC c).q), .int (sC c).e], keep := λ _ => [], pre := λ c => [(c.ms.length < 4611686018427387904 /\ c.ns.length < 4611686018427387904) /\ (AM c = 0 -> c.ns.length <= 14)] }
def AAI : Ann := ann 15 [(ACD, C_few.spec kM)]
def AWA (c : Cht) : Prop := CH Try.prog AAI ALE (AH ALE) [.d (Dj c)] (AB []) (C_Stops.val c) [] [] []
abbrev eT:=sC
attribute [go_sem] eT
theorem BIR (c : Cht) : (AWA c) = (AO (ZP c c (UE c (BO c) c c (Gm c c) (BU (Sx c) (DJ (DA c) 14)))) (CB (sP (eT c)) (sP (eT (DK c)))) (CW (sP (eT c)) (sP (eT (DK c)))) (AR (sL (eT c)) (sL (eT (DK c))))) := by kernel_rfl
theorem BDT : AJ Try.prog AMW (C_Stops.spec kM) := XP C_Stops (λ _ => AAI) [] [] BIJ (λ _ => by kernel_rfl) (λ _ => AA BAH AC) (λ (c : Cht) h => by
 show AWA c; rw [BIR]<;> delta BG BJ EC ES ET BW AD BU CL AR DJ EJ GW EX HP HN HJ GT GB HC DU GG FE JW FP FK PW sP sL eT AE CR FA BB GA AF AY AU AG EM EZ AX FC BM CJ AK AN DD BH HX BY BP CX HZ BN CY BS CE FU AV DA AQ AZ LX DQ CP FT AS AP ID AT EG CM IY EN HV AO DT EL FV DK EP HW DB FN CB FM EA MB FQ BE FO FZ LL GH TZ IC IQ BO SM LS CS EE KP BL HM CW MD Ch Fc XQ Oa ZP Gm UE Sx; simp only [CC, eq_self, implies_true, forall_const, CU]; exact h) (λ _ => YS rfl rfl) _
def C_Pairs : Ctr := { α := Cht, xs := λ c => [.d (Dj c)], val := λ c => .tup [.d (eO (sC c).r), .int (sC c).e], keep := λ _ => [], pre := λ c => [(c.ms.length < 4611686018427387904 /\ c.ns.length < 4611686018427387904) /\ (AM c = 0 -> c.ns.length <= 14)] }
def AVN (c : Cht) : Prop := CH Try.prog AAI AKS (AH AKS) [.d (Dj c)] (AB []) (C_Pairs.val c) [] [] []
abbrev lL a:=tB (eT a)
abbrev tL a:=lL (DK a)
attribute [go_sem] lL tL
theorem BBA (c : Cht) : (AVN c) = (AO (ZP c c (UE c (BO c) c c (Gm c c) (BU (Sx c) (DJ (DA c) 14)))) (BW (YC (lL c)) (YC (tL c))) (AD (λ i=>DB i (YC (lL c)) (MF (lL c) i) (MF (tL c) i) (RT (lL c) i) (RT (tL c) i))) (AR (sL (eT c)) (sL (eT (DK c))))) := by kernel_rfl
theorem BEG : AJ Try.prog AJB (C_Pairs.spec kM) := XP C_Pairs (λ _ => AAI) [] [] BEP (λ _ => by kernel_rfl) (λ _ => AA BAH AC) (λ (c : Cht) h => by
 show AVN c; rw [BBA]<;> delta BG BJ EC ES ET BW AD BU CL AR DJ EJ GW EX HP HN HJ GT GB HC DU GG FE JW PW YC Ws tB sL eT AE CR FA BB GA AF AY AU AG EM EZ AX FC BM CJ AK AN DD BH HX BY BP CX HZ BN CY BS CE FU AV DA AQ AZ LX DQ CP FT AS AP ID AT EG CM HV AO DT EL FV DK EP HW DB FN FM EA FQ BE FO FZ GH IC IQ BO CS EE KP BL RT HM MF MD lL Ch Fc tL XQ Oa ZP Gm UE Sx; simp only [CC, eq_self, implies_true, forall_const, CU]; exact h) (λ _ => YS rfl rfl) _
end Go.Bal
