/- Package chart: the fewest stops. -/
import Derived.Test.YtdbjalgfomknhaaGreatChJ
import Derived.Test.YtdbjalgfomknhaaGreatChPd
import Derived.Test.YtdbjalgfomknhaaGreatChT2
set_option linter.unusedVariables false
set_option linter.unusedSimpArgs false
namespace Go.Bal
open Go Go.Sym Go.Proofs
def idL (n : Nat) : List Int := QR n λ i => (i : Int)
def QG (c : Cht) : List Int := jI (KT c) (idL c.ns.length)
structure FwS where
 la : Int
 q : List Int
 r : List Pr
 deriving Inhabited
def miA (c : Cht) (a : Int) : Int := (gD c.ns a.toNat).mi
def fwP (c : Cht) (la b a : Int) : Bool := bif decide (miA c a > la) then Tk c ⟨a, b⟩ else false
def fwN (c : Cht) (s : FwS) (b : Int) : Option Int -> FwS
 | none => s
 | some a => ⟨wr (miA c b - 1), s.q ++ [wr (miA c b - 1)], s.r ++ [⟨a, b⟩]⟩
def Kk (c : Cht) : Nat -> FwS
 | 0 => ⟨-1, [], []⟩
 | k + 1 => fwN c (Kk c k) (gD (QG c) k) (((QG c).take k).find? (fwP c (Kk c k).la (gD (QG c) k)))
def fwE (c : Cht) : FwS := Kk c c.ns.length
def fwW (c : Cht) : Dk := stD ⟨AX c, (fwE c).q⟩
structure FwR where
 q : List Int
 r : List Pr
 e : Int
def nilI : List Int := []
def nilP : List Pr := []
def vQ (c : Cht) : FwR := bif (IA (fwW c)).2 then ⟨(fwE c).q, (fwE c).r, 0⟩ else ⟨nilI, nilP, 6⟩
def oJ (c : Cht) : FwR := bif AU c == 0 then vQ c else ⟨nilI, nilP, AU c⟩
def C_few : Ctr := { α := Cht, xs := λ c => [.d (Ef c)], val := λ c => .tup [.d (JO (oJ c).q), .d (bQ (oJ c).r), .int (oJ c).e], keep := λ _ => [], pre := λ c => [(c.ms.length < 4611686018427387904 /\ c.ns.length < 4611686018427387904) /\ (AU c = 0 -> c.ns.length <= 14)] }
def fwH (c : Cht) : List (Nat × HCell) := [(201, .live (oI c)), (203, .live (dkB (AX c) 204)), (204, .live (dkM (AX c)))]
def fw6S (c : Cht) (k : Nat) : List (Nat × AVal) := [(1, .bptr 201 0), (5, .bptr 203 0), (29, .int c.ns.length), (30, .int k)]
def fwR : List (Nat × Nat) := [(201, 1000), (203, 2016), (204, 2017)]
def fw6n (c : Cht) : Shape := { α := One, dflt := default, T := λ _ => ⟨(7, .d Rv) :: fw6S c 0, fwH c⟩, inv := λ _ => True, meas := λ _ => 60, first := fwR }
def fw6o (c : Cht) : Shape := { α := Nat, dflt := 0, T := λ k => ⟨(7, .own 202 1 0 k) :: fw6S c k, fwH c ++ [(202, .live (.row 1 k λ i => US i))]⟩, inv := λ k => 1 <= k /\ k <= c.ns.length, meas := λ k => 50 - k, again := [(202, 9048)] }
def fwB (c : Cht) : List (Nat × AVal) := [(1, .bptr 201 0), (5, .bptr 203 0), (7, .d (JO (QG c)))]
def fw11 (c : Cht) (z : List Nat) : Shape := { α := One, dflt := default, T := λ _ => ⟨fwB c, fwH c⟩, inv := λ _ => True, meas := λ _ => 0, ffz := z }
def fwT (c : Cht) (k : Nat) : List (Nat × AVal) := fwB c ++ [(11, .int (Kk c k).la), (41, .d (JO (QG c))), (42, .int c.ns.length), (43, .int k)]
def fwY (c : Cht) (k : Nat) : List (Nat × HCell) := fwH c ++ [(301, .live (.row 1 (Kk c k).q.length λ i => US (gD (Kk c k).q i))), (302, .live (.row 2 (Kk c k).r.length λ i => ePr (gD (Kk c k).r i)))]
def AQI : List (Nat × AVal) := [(9, .d Rv), (10, .d Rv)]
def AZJ (c : Cht) (k : Nat) : List (Nat × AVal) := [(9, .own 301 1 0 (Kk c k).q.length), (10, .own 302 2 0 (Kk c k).r.length)]
def BQV (c : Cht) : Shape := { α := Nat, dflt := 0, T := λ k => ⟨AQI ++ fwT c k, fwH c⟩, inv := λ k => k <= c.ns.length /\ (Kk c k).q = [], meas := λ k => c.ns.length - k, tag := [0] }
def BRV (c : Cht) : Shape := { α := Nat, dflt := 0, T := λ k => ⟨AZJ c k ++ fwT c k, fwY c k⟩, inv := λ k => k <= c.ns.length /\ 1 <= (Kk c k).q.length, meas := λ k => c.ns.length - k, tag := [1] }
def fwJ (c : Cht) (k j : Nat) : List (Nat × AVal) := [(13, .int (gD (QG c) k)), (50, .d (JO ((QG c).take k))), (51, .int k), (52, .int j)]
def BOV (c : Cht) (m : Nat) : Shape := { α := IJ, dflt := default, T := λ s => ⟨fwJ c s.i s.j ++ (AQI ++ fwT c s.i), fwH c⟩, inv := λ s => (s.i < c.ns.length /\ c.ns.length - s.i = m /\ s.j <= s.i /\ ∀ t, t < s.j -> fwP c (Kk c s.i).la (gD (QG c) s.i) (gD (QG c) t) = false) /\ (Kk c s.i).q = [], meas := λ s => c.ns.length - s.j }
def BQQ (c : Cht) (m : Nat) : Shape := { α := IJ, dflt := default, T := λ s => ⟨fwJ c s.i s.j ++ (AZJ c s.i ++ fwT c s.i), fwY c s.i⟩, inv := λ s => (s.i < c.ns.length /\ c.ns.length - s.i = m /\ s.j <= s.i /\ ∀ t, t < s.j -> fwP c (Kk c s.i).la (gD (QG c) s.i) (gD (QG c) t) = false) /\ 1 <= (Kk c s.i).q.length, meas := λ s => c.ns.length - s.j }
def fwT2 (c : Cht) (k : Nat) : List (Nat × AVal) := fwB c ++ [(11, .int (Kk c (k + 1)).la), (41, .d (JO (QG c))), (42, .int c.ns.length), (43, .int k)]
def BPZ (c : Cht) (m : Nat) : Shape := { α := Nat, dflt := 0, T := λ k => ⟨AQI ++ fwT2 c k, fwH c⟩, inv := λ k => k < c.ns.length /\ c.ns.length - k = m /\ (Kk c (k + 1)).q = [], meas := λ _ => 0 }
def BBO (c : Cht) (m : Nat) (f : List (Nat × Nat)) : Shape := { α := Nat, dflt := 0, T := λ k => ⟨AZJ c (k + 1) ++ fwT2 c k, fwY c (k + 1)⟩, inv := λ k => k < c.ns.length /\ c.ns.length - k = m /\ 1 <= (Kk c (k + 1)).q.length, meas := λ _ => 0, first := f }
def fw26 (c : Cht) (z : List Nat) : Shape := { α := One, dflt := default, T := λ _ => ⟨[(5, .bptr 203 0), (9, .d (JO (fwE c).q)), (10, .d (bQ (fwE c).r))], [(203, .live (dkB (AX c) 204)), (204, .live (dkM (AX c)))]⟩, inv := λ _ => True, meas := λ _ => 0, ffz := z }
def fw10 (c : Cht) : Shape := { α := One, dflt := default, T := λ _ => ⟨[(1, .bptr 201 0), (5, .bptr 203 0), (7, .own 202 1 0 c.ns.length)], fwH c ++ [(202, .live (.row 1 c.ns.length λ i => US i))]⟩, inv := λ _ => 1 <= c.ns.length, meas := λ _ => 0 }
def BKK (c : Cht) : Ann := { ann 101 [(YZ, C_open.spec oQ), (vA, C_srt.spec dGLt), (AIP, C_late.spec dDkP), (X4, C_stop.spec dDkZ), (uX, C_times.spec xG)] with mt := λ id => id == 8 || id == 23, loops := λ id => if id = 6 then some [fw6n c, fw6o c] else if id = 15 then some [BQV c, BRV c] else none, inner := λ gs id => if id = 18 then (if gs.getD 1 0 = 0 then some [BOV c (gs.getD 0 0)] else some [BQQ c (gs.getD 0 0)]) else none, cut := λ id => if id = 10 then some [fw10 c] else if id = 11 then some [fw11 c [202]] else if id = 26 then some [fw26 c [], fw26 c [301, 302]] else none, cutIn := λ gs id => if id = 25 then (if gs.getD 1 0 = 0 then some [BPZ c (gs.getD 0 0), BBO c (gs.getD 0 0) [(301, 24048), (302, 24112)]] else some [BBO c (gs.getD 0 0) [(301, 24048), (302, 24112)], BBO c (gs.getD 0 0) []]) else none }
def BKB (c : Cht) : Prop := CL Try.prog (BKK c) Vd (AH Vd) [.d (Ef c)] (AB []) (.tup [.d (JO (vQ c).q), .d (bQ (vQ c).r), .int (vQ c).e]) [] [] []
abbrev cG:=QG
abbrev AKB:=@List.cons DVal
abbrev jT:=FwR.q
abbrev Wv:=FwR.r
abbrev pM:=FwR.e
abbrev Zl a:=FwS.r (fwE a)
abbrev iO a:=FwS.q (fwE a)
abbrev kC a:=Sq (iO a)
abbrev TF a:=AJY (AJB a a) (kC a)
abbrev Ns a b:=MM (Ap a b)
abbrev AJF a b:=FwS.r (Kk a b)
abbrev Dy a b c:=MI (AJF a b) c
abbrev El a b c:=MK (AJF a b) c
abbrev Wt a b:=WQ (AJF a b)
abbrev Dl a b:=FwS.q (Kk a b)
abbrev Lt a:=TR (BV a)
abbrev Fr a b:=Wt a (FK b)
abbrev SJ a b:=Dl a (FK b)
abbrev gS a:=BT (λ i=>MM (Ap a i))
abbrev Ra a:=lA (BN a)
abbrev gF a:=NZ (BN a)
abbrev Pu a:=DB (BN a)
abbrev eY a b:=EB a (BN b)
abbrev Ql a:=DE (BN a)
abbrev VT a:=Bf (cG a)
abbrev Zh a b:=FwS.la (Kk a b)
abbrev fV a b:=Zh a (FK b)
abbrev Tf a b:=BQ (cG a) b
abbrev Ig a b c d:=VG a (cG b) (Tf c d)
abbrev Vj a b c:=Iq a (AO b) c
abbrev dB a b:=JV (AO a) b
abbrev Vh a b:=CM a (AO b)
abbrev XB a b:=Wt a (EW b)
abbrev OQ a b:=Dl a (EW b)
abbrev XC a b:=Zh a (EW b)
abbrev RL a b:=Tf a (EW b)
abbrev Pz a b c d:=Vj (uZ (AO a) b) c d
abbrev Qy a b:=Vh (EW a) b
abbrev ACE a b c d e f g h:=AR a b c d e d f g h
abbrev Cp a b:=jZ (EW a) (cG b)
abbrev Lk a b:=BQ (Cp a b) (EI a)
abbrev iV a:=AKB a (@List.nil DVal)
abbrev kF a b:=AKB a (iV b)
abbrev Pi a b c d:=dPr (DVal.agg (kF (US (Lk a b)) (DVal.v (Pd (RL c d)))))
abbrev kM a:=FS (BN a)
abbrev pS a b c d e f g h:=AR a b b c d e f g h
abbrev Zo a:=Ww a (@List.nil Int)
abbrev ACT a b c d e f g h:=AR a b c d e f g e h
abbrev W5 a b c d e f:=ACT a b a c d e c f
abbrev Rb a:=SA (AO a) BU
attribute [go_sem] cG AKB jT Wv pM Zl iO kC TF Ns AJF Dy El Wt Dl Lt Fr SJ gS Ra gF Pu eY Ql VT Zh fV Tf Ig Vj dB Vh XB OQ XC RL Pz Qy ACE Cp Lk iV kF Pi kM pS Zo ACT W5 Rb
theorem BLR (c : Cht) : (BKB c) = (AE (NE c (BM c) (λ i=>AZ i c) (BK c) (λ i=>BJ i c) (Gg c c) (Po c)) (IF (LZ (Ff GV (AR (RJ c) AJ (AM c) (AL c) (AP c) (AS c) (AT c) (DE c) (DO (λ i=>EB i c) (DB c) (λ i=>CH i c) (Aw (BN c) (MS c)) (Cj (BN c) (MS c)) (Bb (BN c) (MS c)) (By (BN c) (MS c)) (Bs (BN c) (MS c)) (QP (Bh (BN c) (MS c)) (λ i=>LI i (AW (BN c)) (BO (BN c) i) (MS c) (CF (BN c) i)) (Bu (BN c) (MS c)) (λ i=>FF i (BN c) (XA (BN c) i (MS c) i) (DJ (MS c) i) (XK (BN c) i (MS c) i) (WH (BN c) i (MS c) i) (BG (MS c) i)) LD BL (λ i=>Br (BN c) i (MS c) i) (λ i=>Bl (YX c) i (YX (EH c)) i) (λ i=>LA (Ap c i) (Ap (EH c) i))))))) (Kr (λ i=>CO LG 0 (AO c) (AG (Is (NN 0)) (SS SH 1 Ac) Cd Ay (XV 8)) (GW (λ j=>JP (AG AI (NN j) (RJ c) (BH j 0) (UH c (DE c) (λ k=>EB k c) (DB c) (AR (NZ c) (RK c) (RC c) (RU c) (RI c) (RR c) (Ql c) (RM (BN c)) (MY (Pu c) (λ k=>CH k (BN c)) LD (Ra c) (TH c) (λ k=>Ns c k) (NN j) (AC (λ k=>BE k j (IN k 0))))))) (KJ j (AO c)) 50 j 60)) NG)) (λ i=>CO (KJ i (AO c)) i (AO c) (PA (SS (BC i) i Ac) (SS SH 1 Ac) ZF (Cr i) (WY (FK i) 8)) (GW (λ j=>DU (AG AI (VH j i) (RJ c) (BH j i) (UH c (DE c) (λ k=>EB k c) (DB c) (AR (NZ c) (RK c) (RC c) (RU c) (RI c) (RR c) (Ql c) (RM (BN c)) (MY (Pu c) (λ k=>CH k (BN c)) LD (Ra c) (TH c) (λ k=>Ns c k) (VH j i) (AC (λ k=>BE k j (FL k (OU k i (BU k) (BU i))))))))) (KJ j (AO c)) 50 j i)) (Wz (λ j=>TD (Ff (MR c i) (UH c (DE c) (λ k=>EB k c) (DB c) (AR (NZ c) (RK c) (RC c) (RU c) (RI c) (RR c) (Ql c) (RM (BN c)) (MY (Pu c) (λ k=>CH k (BN c)) LD (Ra c) (TH c) (λ k=>Ns c k) (MR c i) (AC (λ k=>BE k (AO c) (BW k))))))) 1 (AO c))))) (Uv (LL 1 (AO c)) (Ah (And (pS AI (EV (BV (Rb c)) c) (AC (λ i=>GZ i (Rb c) (BU i))) (AM c) (AL c) (AP c) (AS c) (PZ c (BM c) (λ i=>AZ i c) (BK c) (JB c) (AM c) (AL c) (AP c) (UK c (CA c) (BZ c) (λ i=>CP i c) (Or (DH (BV (Rb c)) 12) (And (Or (HH (Rb c) 13) (HH (Rb c) 14)) (ndk (Rj c) (Rb c)))) (Sx (Rb c)) (AC (λ i=>TN i (Rb c) i c))))) (LZ (And (EV (BV (cG c)) c) (BY (XY (AO c) (BV (Rb c))) (λ i=>QV i (cG c) (Tf c i) (BQ (jI (Rj c) (Rb c)) (BB i))) (AM c) (AL c) (AP c) (AS c) (AT c) (DE c) (DO (λ i=>EB i c) (DB c) (λ i=>CH i c) (RK c) (RC c) (RU c) (RI c) (RR c) (NB (BN c) LD (YX c) (λ i=>Ns c i))))))) (G7 (IF (GW (λ i=>ML (Kh (W5 GV AI (VT c) (AC (λ j=>Ig j c c j)) (AQ (Zh c i) (-1)) (AR (IN (AO c) (BV (cG c))) (BR i) (AM c) (AL c) (AP c) (AS c) (AT c) (DE c) (DO (λ j=>EB j c) (DB c) (λ j=>CH j c) (RK c) (RC c) (RU c) (RI c) (RR c) (NB (BN c) LD (YX c) (λ j=>Ns c j)))))) i (AO c) (Zo (Dl c i)))) (AC (λ i=>BX (JI i (AO c) (Zo (Dl c i))) (JM (HG i (AO c)) (AN (XS i (cG c)) (RD La (BU i) (ZM (BU i) (BV (cG c)))) (Om (λ j=>AE (CI (AQ (RL c j) (Tf c i)) (HH (Cp j c) (Mp i)) (AC (λ k=>GZ k (Cp j c) (Tf c (Ek k)))) (Dm j (Mp i)) (BR (EI j)) AI (W5 GV AI (VT c) (AC (λ k=>Ig k c c k)) (AQ (XC c j) (Zh c i)) (AR (RJ c) (Dm j i) (AM c) (AL c) (AP c) (AS c) (AT c) (DE c) (DO (λ k=>EB k c) (DB c) (λ k=>CH k c) (RK c) (RC c) (RU c) (RI c) (RR c) (NB (BN c) LD (YX c) (λ k=>Ns c k)))))) (AN (Qy j c) (Pz c j c i) (DH (EI j) (EW j)) (AC (λ k=>No k j (EU (fwP c (XC c j) (RL c j) (Tf c k)))))) (Zo (OQ c j)))) (oR (λ j=>BX (ND (Qy j c) (Pz c j c i) (DH (EI j) (EW j)) (AC (λ k=>No k j (EU (fwP c (XC c j) (RL c j) (Tf c k))))) (Zo (OQ c j))) (JM (HG (EI j) (EW j)) (XS (EI j) (Cp j c)) (And (DQ (Lk j c) (AO c)) (HL (As (VQ c (Lk j c)) (XC c j)) (AR (AQ (Pr.a (Pi j c c j)) (Lk j c)) (AQ (Pr.b (Pi j c c j)) (RL c j)) (RK c) (RC c) (RU c) (RI c) (RR c) (BM (BN c)) (DO (λ k=>AZ k (BN c)) (BK (BN c)) (λ k=>BJ k (BN c)) LD BL (PH (BN c)) (TH c) (BT (λ k=>HZ (BN c) k (Ap c k))) (YL (BN c) (BY (UM (BN c)) Vw BL (IE (BN c)) (TH c) (BT (λ k=>JU (Ap c k) (BN c) k)) (UB (Pr.a (Pi j c c j)) (kM c) (Pr.b (Pi j c c j))) (Jd (EN (BN c)) 40 (kM c) 20) (AC (λ k=>Wh k (kM c) (KB (BN c) k) (EN (BN c)))))))))) (JM (GH (As (VQ c (Lk j c)) (XC c j)) (Tk (oY c) (Pi j c c j))) (DQ (RL c j) (AO c)) (CW (AG (Is (NN 0)) (SS SH 1 Ac) Cd Ay (XV 8)) Do VZ Cd Ay Ja) (GW (λ k=>AN (WA (HH (SJ c k) 1) AI (NN (Fr c k)) (VT c) (cL (AC (λ l=>Ig l c c l)) (AQ (fV c k) (OZ (VQ c (RL c j)))) (VT c) (RJ c) (IN k (EW j)) (AM c) (AL c) (RF c (RK c) (FP (RC c) (RU c) (RI c) (RR c) (Ql c) (λ l=>eY l c) (Pu c) (gF c) (DF LD BL (Ra c) (TH c) (gS c) (HH (SJ c k) 1) (λ l=>GZ l (SJ c k) (OZ (VQ c (RL c j)))) (NN (Fr c k)) (AC (λ l=>CS l (Fr c k) (El c (FK k) l) (Lk j c) (Dy c (FK k) l) (RL c j)))))))) (Vh k c) (Vj (dB c k) c i) (Lt (SJ c k)))) (Om (λ k=>DU (CI (AQ (RL c k) (RL c j)) (EK (Cp k c) (Cp j c)) (PI (Cp k c) (Cp j c)) (Mi k j) (Pv k (EI j)) AI (W5 GV AI (VT c) (AC (λ l=>Ig l c c l)) (AQ (XC c k) (XC c j)) (AR (RJ c) (Mi k j) (AM c) (AL c) (AP c) (AS c) (AT c) (DE c) (DO (λ l=>EB l c) (DB c) (λ l=>CH l c) (RK c) (RC c) (RU c) (RI c) (RR c) (NB (BN c) LD (YX c) (λ l=>Ns c l)))))) (ND (Qy k c) (Pz c k c i) (DH (EI k) (EW k)) (AC (λ l=>No l k (EU (fwP c (XC c k) (RL c k) (Tf c l))))) (Zo (OQ c k))) (AO c) (EI k) (EI j)))) (GW (λ k=>AN (Kh (W5 GV AI (VT c) (AC (λ l=>Ig l c c l)) (AQ (fV c k) (XC c j)) (AR (RJ c) (IN k (EW j)) (AM c) (AL c) (AP c) (AS c) (AT c) (DE c) (DO (λ l=>EB l c) (DB c) (λ l=>CH l c) (RK c) (RC c) (RU c) (RI c) (RR c) (NB (BN c) LD (YX c) (λ l=>Ns c l)))))) (Vh k c) (Vj (dB c k) c i) (Zo (SJ c k)))))))) (AC (λ j=>BX (AE (Vh j c) (Vj (dB c j) c i) (Zo (SJ c j))) (GW (λ k=>LH (Kh (W5 GV AI (VT c) (AC (λ l=>Ig l c c l)) (AQ (Zh c k) (fV c j)) (AR (RJ c) (BH k j) (AM c) (AL c) (AP c) (AS c) (AT c) (DE c) (DO (λ l=>EB l c) (DB c) (λ l=>CH l c) (RK c) (RC c) (RU c) (RI c) (RR c) (NB (BN c) LD (YX c) (λ l=>Ns c l)))))) k (AO c) (Zo (Dl c k)) i)))) (AC (λ j=>BX (AE (Vh j c) (Vj (dB c j) c i) (Lt (SJ c j))) (GW (λ k=>LH (WA (EK (Dl c k) (SJ c j)) AI (CE (Wt c k) (Fr c j)) (VT c) (cL (AC (λ l=>Ig l c c l)) (AQ (Zh c k) (fV c j)) (VT c) (RJ c) (BH k j) (AM c) (AL c) (RF c (RK c) (FP (RC c) (RU c) (RI c) (RR c) (Ql c) (λ l=>eY l c) (Pu c) (gF c) (DF LD BL (Ra c) (TH c) (gS c) (EK (Dl c k) (SJ c j)) (λ l=>ZT l (Dl c k) (SJ c j)) (CE (Wt c k) (Fr c j)) (AC (λ l=>CS l (Wt c k) (El c k l) (El c (FK j) l) (Dy c k l) (Dy c (FK j) l)))))))) k (AO c) (Lt (Dl c k)) i)))) (LZ (And (HH (iO c) 0) (pS (HH (iO c) 0) (CE (WQ (Zl c)) 0) (RK c) (RC c) (RU c) (RI c) (RR c) (NB (BN c) LD (YX c) (λ j=>Ns c j)))))))) (λ i=>BX (JI i (AO c) (Lt (Dl c i))) (DX (HG i (AO c)) (G7 (AN (XS i (cG c)) (RD La (BU i) (ZM (BU i) (BV (cG c)))) (Om (λ j=>AE (AE (AQ (RL c j) (Tf c i)) (HH (Cp j c) (Mp i)) (ACE (AC (λ k=>GZ k (Cp j c) (Tf c (Ek k)))) (Dm j (Mp i)) (BR (EI j)) AI (EK (OQ c j) (Dl c i)) (CE (XB c j) (Wt c i)) (VT c) (cL (AC (λ k=>Ig k c c k)) (AQ (XC c j) (Zh c i)) (VT c) (RJ c) (Dm j i) (AM c) (AL c) (RF c (RK c) (FP (RC c) (RU c) (RI c) (RR c) (Ql c) (λ k=>eY k c) (Pu c) (gF c) (DF LD BL (Ra c) (TH c) (gS c) (EK (OQ c j) (Dl c i)) (λ k=>ZT k (OQ c j) (Dl c i)) (CE (XB c j) (Wt c i)) (AC (λ k=>CS k (XB c j) (El c (EW j) k) (El c i k) (Dy c (EW j) k) (Dy c i k))))))))) (AN (Qy j c) (Pz c j c i) (DH (EI j) (EW j)) (AC (λ k=>No k j (EU (fwP c (XC c j) (RL c j) (Tf c k)))))) (Lt (OQ c j)))) (oR (λ j=>BX (ND (Qy j c) (Pz c j c i) (DH (EI j) (EW j)) (AC (λ k=>No k j (EU (fwP c (XC c j) (RL c j) (Tf c k))))) (Lt (OQ c j))) (JM (HG (EI j) (EW j)) (XS (EI j) (Cp j c)) (And (DQ (Lk j c) (AO c)) (HL (As (VQ c (Lk j c)) (XC c j)) (AR (AQ (Pr.a (Pi j c c j)) (Lk j c)) (AQ (Pr.b (Pi j c c j)) (RL c j)) (RK c) (RC c) (RU c) (RI c) (RR c) (BM (BN c)) (DO (λ k=>AZ k (BN c)) (BK (BN c)) (λ k=>BJ k (BN c)) LD BL (PH (BN c)) (TH c) (BT (λ k=>HZ (BN c) k (Ap c k))) (YL (BN c) (BY (UM (BN c)) Vw BL (IE (BN c)) (TH c) (BT (λ k=>JU (Ap c k) (BN c) k)) (UB (Pr.a (Pi j c c j)) (kM c) (Pr.b (Pi j c c j))) (Jd (EN (BN c)) 40 (kM c) 20) (AC (λ k=>Wh k (kM c) (KB (BN c) k) (EN (BN c)))))))))) (JM (GH (As (VQ c (Lk j c)) (XC c j)) (Tk (oY c) (Pi j c c j))) (DQ (RL c j) (AO c)) (CW (PA (And (Bf (OQ c j)) (NY 0 (OQ c j) Ac)) (SS SH 1 Ac) ZF (Cr (BV (OQ c j))) (WY (FK (BV (OQ c j))) 8)) (Jo (XB c j) (XB c j)) VZ (SC ZF) (Cr (XB c j)) (Jt (XB c j))) (GW (λ k=>AN (WA (HH (SJ c k) (FK (BV (OQ c j)))) AI (VH (Fr c k) (XB c j)) (VT c) (cL (AC (λ l=>Ig l c c l)) (AQ (fV c k) (OZ (VQ c (RL c j)))) (VT c) (RJ c) (IN k (EW j)) (AM c) (AL c) (RF c (RK c) (FP (RC c) (RU c) (RI c) (RR c) (Ql c) (λ l=>eY l c) (Pu c) (gF c) (DF LD BL (Ra c) (TH c) (gS c) (HH (SJ c k) (FK (BV (OQ c j)))) (λ l=>GZ l (SJ c k) (OU l (BV (OQ c j)) (BQ (OQ c j) l) (OZ (VQ c (RL c j))))) (VH (Fr c k) (XB c j)) (AC (λ l=>CS l (Fr c k) (El c (FK k) l) (OU l (XB c j) (El c (EW j) l) (Lk j c)) (Dy c (FK k) l) (OU l (XB c j) (Dy c (EW j) l) (RL c j))))))))) (Vh k c) (Vj (dB c k) c i) (Lt (SJ c k)))) (Om (λ k=>DU (AE (AQ (RL c k) (RL c j)) (EK (Cp k c) (Cp j c)) (ACE (PI (Cp k c) (Cp j c)) (Mi k j) (Pv k (EI j)) AI (EK (OQ c k) (OQ c j)) (CE (XB c k) (XB c j)) (VT c) (cL (AC (λ l=>Ig l c c l)) (AQ (XC c k) (XC c j)) (VT c) (RJ c) (Mi k j) (AM c) (AL c) (RF c (RK c) (FP (RC c) (RU c) (RI c) (RR c) (Ql c) (λ l=>eY l c) (Pu c) (gF c) (DF LD BL (Ra c) (TH c) (gS c) (EK (OQ c k) (OQ c j)) (λ l=>ZT l (OQ c k) (OQ c j)) (CE (XB c k) (XB c j)) (AC (λ l=>CS l (XB c k) (El c (EW k) l) (El c (EW j) l) (Dy c (EW k) l) (Dy c (EW j) l))))))))) (ND (Qy k c) (Pz c k c i) (DH (EI k) (EW k)) (AC (λ l=>No l k (EU (fwP c (XC c k) (RL c k) (Tf c l))))) (Lt (OQ c k))) (AO c) (EI k) (EI j)))) (GW (λ k=>AN (WA (EK (SJ c k) (OQ c j)) AI (CE (Fr c k) (XB c j)) (VT c) (cL (AC (λ l=>Ig l c c l)) (AQ (fV c k) (XC c j)) (VT c) (RJ c) (IN k (EW j)) (AM c) (AL c) (RF c (RK c) (FP (RC c) (RU c) (RI c) (RR c) (Ql c) (λ l=>eY l c) (Pu c) (gF c) (DF LD BL (Ra c) (TH c) (gS c) (EK (SJ c k) (OQ c j)) (λ l=>ZT l (SJ c k) (OQ c j)) (CE (Fr c k) (XB c j)) (AC (λ l=>CS l (Fr c k) (El c (FK k) l) (El c (EW j) l) (Dy c (FK k) l) (Dy c (EW j) l)))))))) (Vh k c) (Vj (dB c k) c i) (Lt (SJ c k)))))))) (AC (λ j=>BX (AE (Vh j c) (Vj (dB c j) c i) (Lt (SJ c j))) (GW (λ k=>LH (WA (EK (Dl c k) (SJ c j)) AI (CE (Wt c k) (Fr c j)) (VT c) (cL (AC (λ l=>Ig l c c l)) (AQ (Zh c k) (fV c j)) (VT c) (RJ c) (BH k j) (AM c) (AL c) (RF c (RK c) (FP (RC c) (RU c) (RI c) (RR c) (Ql c) (λ l=>eY l c) (Pu c) (gF c) (DF LD BL (Ra c) (TH c) (gS c) (EK (Dl c k) (SJ c j)) (λ l=>ZT l (Dl c k) (SJ c j)) (CE (Wt c k) (Fr c j)) (AC (λ l=>CS l (Wt c k) (El c k l) (El c (FK j) l) (Dy c k l) (Dy c (FK j) l)))))))) k (AO c) (Lt (Dl c k)) i))))) (LZ (VL (EK (iO c) (Dl c i)) (NP (BV (Dl c i))) (λ j=>Ly j (iO c) (Dl c i) (BB j)) (IY (CE (WQ (Zl c)) (Wt c i)) (NP (Wt c i)) (λ j=>CS j (WQ (Zl c)) (MK (Zl c) j) (El c i (BB j)) (MI (Zl c) j) (Dy c i (BB j))) (RK c) (RC c) (RU c) (RI c) (RR c) (NB (BN c) LD (YX c) (λ j=>Ns c j)))))))) (Ju (AE (CW (EK (kC c) (iO c)) (PI (kC c) (iO c)) (RK c) (RC c) (RU c) (DF (RI c) (RR c) (BM (BN c)) (SE (BN c)) (BK (BN c)) (JB (BN c)) Vw BL (AR (PH (BN c)) (TH c) (BT (λ i=>HZ (BN c) i (Ap c i))) BL (BT (λ i=>Br (BN c) i (TF c) i)) (BT (λ i=>Bl (YX c) i (cH (dA c) (kC c)) i)) (BT (λ i=>Gs (Ap c i) (cH (dA c) (kC c)) i)) (OP (kC c)) (UD (BN c))))) (CI (AM (TF c)) (AL (TF c)) (AP (TF c)) (AS (TF c)) (AT (TF c)) (BM (TF c)) (DO (λ i=>AZ i (TF c)) (BK (TF c)) (λ i=>BJ i (TF c)) (IB (cH (dA c) (kC c))) BL (BT (λ i=>ZH (TF c) i (BN c) i)) (TH c) (BT (λ i=>HZ (TF c) i (Ap c i))) (YL (TF c) (BY (UM (TF c)) (λ i=>QZ i (cH (dA c) (kC c))) BL (BT (λ i=>Bv (BN c) i (TF c) i)) (TH c) (BT (λ i=>JU (Ap c i) (TF c) i)) (WO (TF c)) (UD (TF c)) (BT (λ i=>UJ (Dj (TF c) i) i (EN (TF c)))))))) (DX (not (Vc (Sy (ALM (EH (TF c)) c (cH (dA c) (kC c)))))) (vT (HH (jT (vQ c)) 0) (HH (jT (vQ c)) 0) (CE (WQ (Wv (vQ c))) 0) (AQ (pM (vQ c)) 6)) (Ej (EK (jT (vQ c)) (iO c)) (PI (jT (vQ c)) (iO c)) (CE (WQ (Wv (vQ c))) (WQ (Zl c))) (λ i=>CS i (WQ (Wv (vQ c))) (MK (Wv (vQ c)) i) (MK (Zl c) i) (MI (Wv (vQ c)) i) (MI (Zl c) i)) (JF (pM (vQ c))))))))))) := by kernel_rfl
theorem BIC (a b : Int) : dPr (.agg [US a, .v (.int .i64 b)]) = ⟨a, b⟩ := rfl
theorem U1 (c : Cht) : Dk.mk c (AX c).st (AX c).sp = AX c := rfl
theorem BIG {c : Cht} (h : nsIn c) : ∀ i, i < c.ns.length -> 0 <= (gD c.ns i).mi /\ (gD c.ns i).mi < c.ms.length := λ i hi => h _ (List.any_eq_true.2 ⟨_, WR hi, by simp⟩)
theorem APC (n : Nat) : (idL n).length = n := by unfold idL; simp
theorem ACY (c : Cht) : (QG c).Perm (idL c.ns.length) := Uo _ _
theorem AAK (c : Cht) : (QG c).length = c.ns.length := by rw [(ACY c).length_eq, APC]
theorem BCY (c : Cht) {i : Nat} (hi : i < c.ns.length) : 0 <= gD (QG c) i /\ gD (QG c) i < c.ns.length := by
 have hm : gD (QG c) i ∈ idL c.ns.length := (ACY c).mem_iff.1 (WR (by rw [AAK]; exact hi))
 obtain ⟨k, hk, e⟩ := YH hm
 rw [APC] at hk
 have e2 : gD (idL c.ns.length) k = (k : Int) := IK _ _ _ hk
 rw [<- e, e2]; omega
theorem BGZ {c : Cht} {k : Nat} (hk : k <= c.ns.length) (h : ∀ t, t < k -> fwP c (Kk c k).la (gD (QG c) k) (gD (QG c) t) = false) : Kk c (k + 1) = Kk c k := by
 show fwN c (Kk c k) _ (((QG c).take k).find? _) = _
 rw [APJ]
 ·rfl
 ·intro t ht
  have ht : t < k := by rw [List.length_take] at ht; omega
  rw [cY ht]; exact h t ht
theorem BHQ {c : Cht} {k j : Nat} (hk : k <= c.ns.length) (hj : j < k) (h : ∀ t, t < j -> fwP c (Kk c k).la (gD (QG c) k) (gD (QG c) t) = false) (h2 : fwP c (Kk c k).la (gD (QG c) k) (gD (QG c) j) = true) : Kk c (k + 1) = ⟨wr (miA c (gD (QG c) k) - 1), (Kk c k).q ++ [wr (miA c (gD (QG c) k) - 1)], (Kk c k).r ++ [⟨gD (QG c) j, gD (QG c) k⟩]⟩ := by
 have e : (((QG c).take k).find? (fwP c (Kk c k).la (gD (QG c) k))) = some (gD ((QG c).take k) j) := AQS (by rw [List.length_take, AAK]; omega) (λ t ht => by rw [cY (by omega)]; exact h t ht) (by rw [cY hj]; exact h2)
 show fwN c (Kk c k) _ (((QG c).take k).find? _) = _
 rw [e, cY hj]; rfl
theorem BAY (c : Cht) : ∀ k, (Kk c k).q.length <= k /\ (Kk c k).r.length = (Kk c k).q.length
 | 0 => ⟨Nat.le_refl _, rfl⟩
 | k + 1 => by
  obtain ⟨h1, h2⟩ := BAY c k
  show (fwN c (Kk c k) _ (((QG c).take k).find? _)).q.length <= _ /\ (fwN c (Kk c k) _ (((QG c).take k).find? _)).r.length = (fwN c (Kk c k) _ (((QG c).take k).find? _)).q.length
  cases ((QG c).take k).find? (fwP c (Kk c k).la (gD (QG c) k)) with
  | none => exact ⟨by show (Kk c k).q.length <= _; omega, h2⟩
  | some a =>
   refine ⟨?_, ?_⟩
   ·show ((Kk c k).q ++ [_]).length <= _
    rw [List.length_append]; simp; omega
   ·show ((Kk c k).r ++ [_]).length = ((Kk c k).q ++ [_]).length
    rw [List.length_append, List.length_append]; simp; omega
theorem ARK {α : Type} [Inhabited α] (l : List α) (x : α) (i : Nat) (h : i < l.length + 1) : gD (l ++ [x]) i = bif decide (i < l.length) then gD l i else x := by
 rw [Ma]
 by_cases h2 : i < l.length
 ·simp [h2]
 ·have : i - l.length = 0 := by omega
  rw [if_neg h2, this, decide_eq_false h2]; rfl
theorem BNP {key : Int -> Int} {l : List Int} (h : ∀ i j, i < j -> j < l.length -> key (gD l i) ≠ key (gD l j)) : ndk key l := List.pairwise_map.2 (List.pairwise_iff_getElem.2 λ i j hi hj hij => by
 have := h i j hij hj
 simpa [gD, List.getD_eq_getElem?_getD, hi, hj] using this)
theorem BEG {c : Cht} (h0 : AU c = 0) (hn : c.ns.length <= 14) {l : List Int} (hl : l.length = c.ns.length) (hI : ∀ i, i < c.ns.length -> gD l i = (i : Int)) : c.ns.length <= 12 ∨ (c.ns.length = 13 ∨ c.ns.length = 14) /\ ndk (KT c) l := by
 rcases Nat.lt_or_ge 12 c.ns.length with q | q
 ·refine .inr ⟨by omega, BNP λ i j hij hj => ?_⟩
  rw [hI i (by omega), hI j (by omega)]
  exact (PX.1 h0).one i j hij (by omega)
 ·exact .inl q
theorem BPV (c : Cht) (h1 : c.ms.length < 4611686018427387904 /\ c.ns.length < 4611686018427387904) (h0 : AU c = 0) (hn : 1 <= c.ns.length /\ c.ns.length <= 14) : BKB c := by
 have hl := RA h0
 have hs := oD h0
 have hM := BIG hs.1
 have hO := AAK c
 have hR := λ i (h : i < c.ns.length) => BCY c h
 have hF := BAY c
 rw [BLR]<;> delta KY Aq BA BI FW OH PR Cs EX FI CE AC BX CM AQ BU WF DH DX IP HD LS PG JV ER GP GA HQ HT HC HR DS GB ED GW LG IX As HV QT NG SX BT PO LL YY AV YX BV BQ LW SA Wz Kr Sy Vc XE WQ Sp jZ Om EW EI oR Ww cG AKB jT Wv pM AE BG AW EO BN GJ GI AG GM BF BE UR CK QU AR CN BD AF G7 JJ CG BC EZ Tz cL ACT vT W5 pS ACE AO CQ GT BS CV JL CY BO HK CR DD AL kK KA Sq CF AM AT DM DR DZ GF GG BB DW RB AS DJ EG FC Ic AP EY FG FS EN SW DC DB CS HW FV GR FZ JD DF KU FK HA RY QW KB LQ FU EH FE ET DE CJ Ap GQ AN BY LP NY FY FJ pN EV EJ KD DI cH BL MF XQ JS OZ iO FL JE HY JH AI HH LR OK ALM LV AJY JG XJ kC BH HL JI Dl uZ ZA Rj JQ OM JF KV MS JP DV AJF Tf HJ DQ DG oY BK QZ IT EB MC AJB KF LM LX EK OJ MR CW IB MG OX QV WB Bf IN HB KE MD KR MO IS KC OV Dj QS QY QP HG TR EU HX Iq Wt DU BM BZ CA dA EP FQ GZ UH TF LI AZ CH AJ IY JC SS CI PC YM MI BR BW JN SI Qq Cp MK KP PW RT GH VG FP RL Zh Pd CO HF MB MM Ub Wh HE FF LA GO KL DO Jd Vw Ly OQ OP TV ZH RD ZJ TE Ee XY Bv RK LZ SH NQ SJ HZ JA Gh NP Ga ZT EE NW ZI BJ SG NZ lA RI XV RJ JM TH VT KJ GV IE RU OU JU Dm SC ZF RG Lk CP NB LD RR XC La OB NN WY VQ KI RM RC IF XB ZM iV Vj PH ZX LH Vh kF Uv VH ND El JB ML Hx Dy Fr PI TN ZZ RF VZ Ac XS Cn Ju WO Ek Pt PA Ns UM UB Lt Is TD Ra Fs UD Ab Ig UJ Xp Cd SE Ql Ay Va PZ XK NE Rb Pu Tp XA WH VL Cr Pc No Mp Bs Qy Bh Ah Wg Mi Zl Do WA Kh Aw Bb By Pi Bl Br Ff Gs UK Bu Jt gF Cj Ja Zo Pz Jo fV eY Pv gS Ej dB Sx Po kM Gg MY YL; simp only [CC, eq_self, implies_true, forall_const, DN, B5, aF, AKR, U1, BIC]
 have hI : ∀ i, i < c.ns.length -> gD (QR c.ns.length λ i => (i : Int)) i = (i : Int) := λ i hi => IK _ _ _ hi
 have hT : ∀ k j, j < k -> gD ((QG c).take k) j = gD (QG c) j := λ k j h => cY h
 have hTl : ∀ k, k <= c.ns.length -> ((QG c).take k).length = k := λ k h => by rw [List.length_take, hO]; omega
 have pre : ∀ x ∈ [0], True := λ _ _ => trivial
 refine ⟨⟨h1, h0⟩, ⟨⟨⟨default, trivial⟩, ?_, ?_⟩, λ _ => ⟨⟨⟨hI, BEG h0 hn.2 (rng_length _ _) hI, by omega, ?_⟩, default, hO, Nat.le_refl _, λ _ _ => rfl⟩, ⟨⟨0, ⟨rfl, by rw [hO], rfl⟩, Nat.zero_le _, rfl⟩, ?_, ?_⟩, ?_⟩⟩⟩
 ·refine ⟨λ _ => ⟨by decide, 1, ⟨rfl, by decide, rfl, λ i hi => by omega⟩, by omega, by omega⟩, λ h => h (by omega)⟩
 ·intro a ha
  refine ⟨λ h => ⟨⟨Nat.one_pos, (λ h => by cases h), by omega, by omega⟩, a + 1, ⟨rfl, by rw [Dh (by omega) (by omega)]; rfl, rfl, λ i hi => ?_⟩, by omega, by omega⟩, λ h => ⟨default, by omega, by omega⟩⟩
  by_cases h2 : i < a
  ·rw [decide_eq_true h2]; rfl
  ·rw [decide_eq_false h2]; show (i : Int) = a; omega
 ·intro i hi; rw [hI i hi]; omega
 ·rintro k ⟨hk, hq⟩
  refine ⟨λ h => ?_, λ h => ?_⟩
  ·have hk2 : k < c.ns.length := by omega
   refine ⟨⟨⟨by omega, by omega⟩, ⟨by omega, by omega, by omega⟩, ⟨⟨k, 0⟩, ⟨rfl, hTl k hk, λ i hi => ?_, rfl, rfl, rfl, rfl⟩, ⟨hk2, rfl, Nat.zero_le _, λ t ht => absurd ht (Nat.not_lt_zero _)⟩, hq⟩, ?_⟩, ?_, ?_⟩
   ·rw [hT _ _ (by have hi : i < ((QG c).take k).length := hi; rw [hTl k hk] at hi; exact hi), show Int.toNat 0 = 0 from rfl, Nat.zero_add]
   ·rintro y ⟨⟨y1, y2, y3, y4⟩, y5⟩
    have hp : ∀ j, j < y.i -> (bif decide ((gD c.ns (gD ((QG c).take y.i) j).toNat).mi > (Kk c y.i).la) then Tk c { a := gD ((QG c).take y.i) j, b := gD (QG c) y.i } else false) = fwP c (Kk c y.i).la (gD (QG c) y.i) (gD (QG c) j) := λ j hj => by rw [hT _ _ hj]; rfl
    refine ⟨λ hj => ⟨⟨by omega, by rw [hTl _ (by omega)]; exact hj⟩, ⟨by rw [hT _ _ (by omega)]; exact hR _ (by omega), λ _ => ⟨⟨by rw [hT _ _ (by omega)]; exact hR _ (by omega), hR _ y1⟩, ⟨hl.2.1.2, hl.2.2⟩, hM⟩⟩, λ hc => ?_, λ hc => ?_⟩, λ hj => ?_⟩
    ·rw [hp _ (by omega)] at hc
     have e := BHQ (by omega) (by omega) y4 hc
     rw [hT _ _ (by omega)]
     have h8 : (Kk c y.i).r = [] := List.length_eq_zero_iff.1 (by rw [(hF y.i).2, y5]; rfl)
     refine ⟨hR _ y1, by decide, y.i, ?_, y1, y2, ?_⟩
     ·rw [e, y5, h8]
      refine ⟨rfl, rfl, rfl, rfl, rfl, λ i hi => ?_, rfl, λ i hi => ?_⟩
      ·have hi : i < 1 := hi
       obtain rfl : i = 0 := by omega
       rfl
      ·have hi : i < 1 := hi
       obtain rfl : i = 0 := by omega
       exact ⟨rfl, rfl⟩
     ·rw [e, y5]; exact Nat.one_pos
    ·rw [hp _ (by omega)] at hc
     have e : IntKind.i64.wrap ((y.j : Int) + 1) = ((y.j + 1 : Nat) : Int) := by rw [Dh (by omega) (by omega)]; rfl
     refine ⟨⟨y.i, y.j + 1⟩, ⟨rfl, rfl, λ _ _ => rfl, rfl, e.symm, rfl, rfl⟩, ⟨⟨y1, y2, by show y.j + 1 <= y.i; omega, λ t ht => ?_⟩, y5⟩, by show _ - (y.j + 1) < _; omega⟩
     have ht : t < y.j + 1 := ht
     by_cases h2 : t = y.j
     ·subst h2; exact hc
     ·exact y4 t (by omega)
    ·have e := BGZ (by omega) (λ t (ht : t < y.i) => y4 t (by omega))
     refine ⟨y.i, ?_, y1, y2, ?_⟩
     ·rw [e]; exact ⟨rfl, rfl⟩
     ·rw [e]; exact y5
   ·rintro k' ⟨g1, g2, g3⟩
    refine ⟨k' + 1, ⟨rfl, by rw [Dh (by omega) (by omega)]; rfl⟩, ⟨by omega, g3⟩, by omega⟩
   ·rintro k' ⟨g1, g2, g3⟩
    refine ⟨k' + 1, ⟨rfl, rfl, rfl, by rw [Dh (by omega) (by omega)]; rfl, rfl, λ _ _ => rfl, rfl, λ _ _ => ⟨rfl, rfl⟩⟩, ⟨by omega, g3⟩, by omega⟩
  ·have e : k = c.ns.length := by omega
   have h8 : (Kk c k).r = [] := List.length_eq_zero_iff.1 (by rw [(hF k).2, hq]; rfl)
   subst e
   exact ⟨default, by show (Kk c _).q.length = 0; rw [hq]; rfl, by show (Kk c _).q.length = 0; rw [hq]; rfl, by show (Kk c _).r.length = 0; rw [h8]; rfl⟩
 ·rintro k ⟨hk, hq⟩
  refine ⟨λ h => ?_, λ h => ?_⟩
  ·have hk2 : k < c.ns.length := by omega
   refine ⟨⟨⟨by omega, by omega⟩, ⟨by omega, by omega, by omega⟩, ⟨⟨k, 0⟩, ⟨rfl, hTl k hk, λ i hi => ?_, rfl, rfl, rfl, rfl, rfl, rfl, rfl, λ _ _ => rfl, rfl, λ _ _ => ⟨rfl, rfl⟩⟩, ⟨hk2, rfl, Nat.zero_le _, λ t ht => absurd ht (Nat.not_lt_zero _)⟩, hq⟩, ?_⟩, ?_⟩
   ·rw [hT _ _ (by have hi : i < ((QG c).take k).length := hi; rw [hTl k hk] at hi; exact hi), show Int.toNat 0 = 0 from rfl, Nat.zero_add]
   ·rintro y ⟨⟨y1, y2, y3, y4⟩, y5⟩
    have hp : ∀ j, j < y.i -> (bif decide ((gD c.ns (gD ((QG c).take y.i) j).toNat).mi > (Kk c y.i).la) then Tk c { a := gD ((QG c).take y.i) j, b := gD (QG c) y.i } else false) = fwP c (Kk c y.i).la (gD (QG c) y.i) (gD (QG c) j) := λ j hj => by rw [hT _ _ hj]; rfl
    refine ⟨λ hj => ⟨⟨by omega, by rw [hTl _ (by omega)]; exact hj⟩, ⟨by rw [hT _ _ (by omega)]; exact hR _ (by omega), λ _ => ⟨⟨by rw [hT _ _ (by omega)]; exact hR _ (by omega), hR _ y1⟩, ⟨hl.2.1.2, hl.2.2⟩, hM⟩⟩, λ hc => ?_, λ hc => ?_⟩, λ hj => ?_⟩
    ·rw [hp _ (by omega)] at hc
     have e := BHQ (by omega) (by omega) y4 hc
     rw [hT _ _ (by omega)]
     have h9 := hF y.i
     refine ⟨hR _ y1, ⟨⟨Nat.one_pos, (λ h => by cases h), by omega, by omega⟩, Nat.one_pos, (λ h => by cases h), by omega, by omega⟩, y.i, ?_, y1, y2, ?_⟩
     ·rw [e]
      refine ⟨by simp, by simp, rfl, rfl, by simp, λ i hi => ?_, by simp, λ i hi => ?_⟩
      ·exact ARK _ _ _ (by simpa using hi)
      ·have hi2 : i < (Kk c y.i).r.length + 1 := by simpa using hi
       show (gD ((Kk c y.i).r ++ [_]) i).a = _ /\ (gD ((Kk c y.i).r ++ [_]) i).b = _
       rw [ARK _ _ _ hi2]
       cases decide (i < (Kk c y.i).r.length) <;> exact ⟨rfl, rfl⟩
     ·rw [e]; simp
    ·rw [hp _ (by omega)] at hc
     have e : IntKind.i64.wrap ((y.j : Int) + 1) = ((y.j + 1 : Nat) : Int) := by rw [Dh (by omega) (by omega)]; rfl
     refine ⟨⟨y.i, y.j + 1⟩, ⟨rfl, rfl, λ _ _ => rfl, rfl, e.symm, rfl, rfl, rfl, rfl, rfl, λ _ _ => rfl, rfl, λ _ _ => ⟨rfl, rfl⟩⟩, ⟨⟨y1, y2, by show y.j + 1 <= y.i; omega, λ t ht => ?_⟩, y5⟩, by show _ - (y.j + 1) < _; omega⟩
     have ht : t < y.j + 1 := ht
     by_cases h2 : t = y.j
     ·subst h2; exact hc
     ·exact y4 t (by omega)
    ·have e := BGZ (by omega) (λ t (ht : t < y.i) => y4 t (by omega))
     refine ⟨y.i, ?_, y1, y2, ?_⟩
     ·rw [e]; exact ⟨rfl, rfl, rfl, rfl, rfl, λ _ _ => rfl, rfl, λ _ _ => ⟨rfl, rfl⟩⟩
     ·rw [e]; exact y5
   ·rintro k' ⟨g1, g2, g3⟩
    refine ⟨k' + 1, ⟨rfl, rfl, rfl, by rw [Dh (by omega) (by omega)]; rfl, rfl, λ _ _ => rfl, rfl, λ _ _ => ⟨rfl, rfl⟩⟩, ⟨by omega, g3⟩, by omega⟩
  ·have e : k = c.ns.length := by omega
   subst e
   exact ⟨default, rfl, Nat.le_refl _, λ _ _ => rfl, rfl, Nat.le_refl _, λ _ _ => ⟨rfl, rfl⟩⟩
 ·have h9 := hF c.ns.length
  refine ⟨⟨λ _ => rfl, by have : (fwE c).q.length <= c.ns.length := h9.1; omega, hl.2.1.2⟩, ⟨hl.2.1.1, hl.2.1.2, hs.1⟩, λ hc => ?_, λ hc => ?_⟩
  ·have hc : (IA (fwW c)).2 = false := hc
   unfold vQ; rw [hc]; exact ⟨rfl, rfl, rfl, rfl, rfl⟩
  ·have hc : (IA (fwW c)).2 = true := hc
   unfold vQ; rw [hc]; exact ⟨rfl, λ _ _ => rfl, rfl, λ _ _ => ⟨rfl, rfl⟩, rfl⟩
def C_insZ : Ctr := { ro := [100], α := Cht, xs := λ _ => [.d Rv, .int 0, .int 0, .fn (.func VS) [] [.bptr 100 0]], L := λ c => [(100, oI c)], val := λ _ => .d (.tup []), keep := λ c => [(100, .live (oI c))] }
def AYJ : List AVal -> Heap -> Option (Cht × List (Nat × Nat) × List Nat)
 | [.d _, _, _, .fn _ _ [.bptr id _]], H => match Em H id with
  | some q => some (q, [(100, id)], [])
  | none => none
 | _, _ => none
def iz1 (c : Cht) : Shape := { α := One, dflt := default, T := λ _ => ⟨[(0, .d Rv), (1, .int 0), (2, .int 0), (3, .fn (.func VS) [] [.bptr 100 0]), (8, .int 1)], [(100, .live (oI c))]⟩, inv := λ _ => True, meas := λ _ => 0 }
def AWN (c : Cht) : Ann := { ann 53 [] with E := [100], loops := λ id => if id = 1 then some [iz1 c] else none }
def AZS (c : Cht) : Prop := CL Try.prog (AWN c) W3 (AH W3) (C_insZ.xs c) (AB (C_insZ.L c)) (C_insZ.val c) (C_insZ.keep c) [] []
theorem BDK (c : Cht) : (AZS c) = (Ah (LZ (WA GV AJ AJ (AQ (WF 1) (WF ((@HMod.hMod Nat Nat Nat (@instHMod Nat Nat.instMod)) (BB 1) (Int.natAbs (ADE 2 (IntKind.bits PR)))))) (FO c))) (FO c)) := by kernel_rfl
theorem BDD : AK Try.prog vZ (C_insZ.spec AYJ) := XM C_insZ AWN [] [] ASB (λ _ => by kernel_rfl) (λ _ => AD) (λ (c : Cht) _ => by
 show AZS c; rw [BDK]<;> delta KY Aq BA BI FW PR EX FI CE AC BX CM AQ WF ER GP GA HQ HT HC HR DS GB ED LG QT Wz Kr ADE AE BG AW AG BF BE CK AR CN BD AF CG BC EZ AO CQ BS CV CY BO CR DD AL CF AM AT DM DZ GG BB AS DJ AP EY DB HW JD DF RY FE DE MF JE HY JH AI JQ EB CW OX QI QN CH AJ FO TV Ee LZ GV Uv Ju Ah WA; exact ⟨⟨default, by simp; rfl, trivial⟩, λ _ _ => by simp⟩) (λ _ => YR rfl rfl) _
def C_pdqZ : Ctr := { ro := [100], α := Cht, xs := λ _ => [.d Rv, .int 0, .int 0, .any, .fn (.func VS) [] [.bptr 100 0]], L := λ c => [(100, oI c)], val := λ _ => .d (.tup []), keep := λ c => [(100, .live (oI c))] }
def AXA : List AVal -> Heap -> Option (Cht × List (Nat × Nat) × List Nat)
 | [.d _, _, _, _, .fn _ _ [.bptr id _]], H => match Em H id with
  | some q => some (q, [(100, id)], [])
  | none => none
 | _, _ => none
def pz2 (c : Cht) : Shape := { α := One, dflt := default, T := λ _ => ⟨[(0, .d Rv), (1, .int 0), (2, .int 0), (3, .any), (4, .fn (.func VS) [] [.bptr 100 0]), (10, .bool true), (11, .bool true)], [(100, .live (oI c))]⟩, inv := λ _ => True, meas := λ _ => 0 }
def BAR (c : Cht) : Ann := { ann 148 [(vZ, C_insZ.spec AYJ)] with E := [100], loops := λ id => if id = 2 then some [pz2 c] else none }
def AUT (c : Cht) : Prop := CL Try.prog (BAR c) O0 (AH O0) (C_pdqZ.xs c) (AB (C_pdqZ.L c)) (C_pdqZ.val c) (C_pdqZ.keep c) [] []
theorem BDL (c : Cht) : (AUT c) = (Ah (LZ (Ff GV (vT AJ AJ HF (FO c)))) (Dw (WA GV AJ AJ (AM c) (FP (AL c) (AP c) (AS c) (AT c) (BM c) (λ i=>AZ i c) (BK c) (JB c) (QI c c c (CA c) (λ i=>EE i c) (BZ c) (λ i=>CP i c)))) c)) := by kernel_rfl
theorem BDC : AK Try.prog H4 (C_pdqZ.spec AXA) := XM C_pdqZ BAR [] [] ALP (λ _ => by kernel_rfl) (λ _ => AA BDD AD) (λ (c : Cht) _ => by
 show AUT c; rw [BDL]<;> delta KY Aq BA BI FW EX FI CE AC BX CM AQ WF ER GP GA HQ HT HC HR DS GB ED LG IX Wz Kr AE BG AW EO GJ GI AG GM BF BE CK AR CN BD AF JJ CG BC EZ vT AO CQ GT BS CV CY BO CR DD AL KA CF AM AT DM DR DZ GG AS DJ EG FC AP EY FG FS EN DB CS HW FV JD DF HA RY KB LQ FU FE ET DE LP FY FJ EV MF JS JE HY JH AI JQ KV BK IT EB KF LM OJ MR CW OX QI KR MO OV QS QY BM BZ CA EP FQ QN AZ CH AJ JC JN FP HF FF FO GO KL TV Ee LZ EE BJ GV CP Uv JB Ju Dw Ah WA Ff; simp only [CC, eq_self, implies_true, forall_const]; exact ⟨default, trivial⟩) (λ _ => YR rfl rfl) _
def C_sortZ : Ctr := { ro := [100], α := Cht, xs := λ _ => [.d Rv, .fn (.func VS) [] [.bptr 100 0]], L := λ c => [(100, oI c)], val := λ _ => .d (.tup []), keep := λ c => [(100, .live (oI c))] }
def APA : List AVal -> Heap -> Option (Cht × List (Nat × Nat) × List Nat)
 | [.d _, .fn _ _ [.bptr id _]], H => match Em H id with
  | some q => some (q, [(100, id)], [])
  | none => none
 | _, _ => none
def ARF : Ann := { ann 14 [(D0, ACM), (H4, C_pdqZ.spec AXA)] with E := [100] }
def ASD (c : Cht) : Prop := CL Try.prog ARF dM (AH dM) (C_sortZ.xs c) (AB (C_sortZ.L c)) (C_sortZ.val c) (C_sortZ.keep c) [] []
theorem AWS (c : Cht) : (ASD c) = (Dw (CI (Qb (Yi 0) (HD (Yi 0) 20)) AI GV AJ AJ (AM c) (FP (AL c) (AP c) (AS c) (AT c) (BM c) (λ i=>AZ i c) (BK c) (JB c) (QI c c c (CA c) (λ i=>EE i c) (BZ c) (λ i=>CP i c)))) c) := by kernel_rfl
theorem AUE : AK Try.prog vA (C_sortZ.spec APA) := XM C_sortZ (λ _ => ARF) [] [] V3 (λ _ => by kernel_rfl) (λ _ => AA BBL (AA BDC AD)) (λ (c : Cht) _ => by
 show ASD c; rw [AWS]<;> delta KY Aq BA BI FW OH EX FI CE AC BX CM AQ BU WF HD ER GP GA HQ HT HC HR DS GB ED AE BG AW EO GJ GI AG GM BF BE CK AR CN BD AF JJ CG BC EZ AO CQ GT BS CV CY BO CR DD AL KA CF AM AT DM DR DZ GG AS DJ EG FC AP EY FG FS EN DC DB CS HW FV JD DF HA RY KB LQ FU FE ET DE LP FY FJ EV MF JS JE HY JH AI JQ KV BK IT EB KF LM OJ MR OX QI KR MO OV QS QY BM BZ CA EP FQ QN AZ CH AJ JC CI JN FP FF FO GO KL Ee EE BJ GV CP Pg JB Qb Dw Yi; simp only [CC, eq_self, implies_true, forall_const]; rw [u64w (by omega) (by omega)]; omega) (λ _ => YR rfl rfl) _
def fz6 (c : Cht) : Shape := { α := One, dflt := default, T := λ _ => ⟨(7, .d Rv) :: fw6S c 0, fwH c⟩, inv := λ _ => c.ns.length = 0, meas := λ _ => 60, first := fwR }
def fz15 (c : Cht) : Shape := { α := One, dflt := default, T := λ _ => ⟨AQI ++ [(1, .bptr 201 0), (5, .bptr 203 0), (7, .d Rv), (11, .int (-1)), (41, .d Rv), (42, .int 0), (43, .int 0)], fwH c⟩, inv := λ _ => c.ns.length = 0, meas := λ _ => 60 }
def AZL (c : Cht) : Ann := { ann 101 [(YZ, C_open.spec oQ), (vA, C_sortZ.spec APA), (X4, C_stop.spec dDkZ), (uX, C_times.spec xG)] with loops := λ id => if id = 6 then some [fz6 c] else if id = 15 then some [fz15 c] else none }
def AVO (c : Cht) : Prop := CL Try.prog (AZL c) Vd (AH Vd) [.d (Ef c)] (AB []) (.tup [.d (JO (vQ c).q), .d (bQ (vQ c).r), .int (vQ c).e]) [] [] []
abbrev uN (c : Cht) : List Mk := QR c.ms.length λ (i : Nat) => gD c.ms i
abbrev lJ (c : Cht) : Nat := (uN c).length
abbrev U9 (c : Cht) : Prop := lJ c = c.ms.length
abbrev V0 (c : Cht) (i : Nat) : Mk := gD (uN c) i
abbrev S4 (c : Cht) (i : Nat) : Int := (V0 c i).pl
abbrev R3 (c : Cht) (i : Nat) : Int := (V0 c i).ht
abbrev Y9 (c : Cht) : Prop := ∀ (i : Nat), i < lJ c -> S4 c i = (gD c.ms i).pl /\ R3 c i = (gD c.ms i).ht
abbrev vI (c : Cht) : List Nt := QR c.ns.length λ (i : Nat) => gD c.ns i
abbrev kG (c : Cht) : Nat := (vI c).length
abbrev AAB (c : Cht) : Prop := kG c = c.ns.length
abbrev lX (c : Cht) (i : Nat) : Nt := gD (vI c) i
abbrev yK (c : Cht) (i : Nat) : Int := (lX c i).mi
abbrev zO (c : Cht) (i : Nat) : Span := (lX c i).t
abbrev yQ (c : Cht) (i : Nat) : Int := (zO c i).lo
abbrev wM (c : Cht) (i : Nat) : Int := (zO c i).hi
abbrev yP (c : Cht) (i : Nat) : Span := (lX c i).s
abbrev wF (c : Cht) (i : Nat) : Int := (yP c i).lo
abbrev yO (c : Cht) (i : Nat) : Int := (yP c i).hi
abbrev zY (c : Cht) : Prop := ∀ (i : Nat), i < kG c -> yK c i = (gD c.ns i).mi /\ yQ c i = (gD c.ns i).t.lo /\ wM c i = (gD c.ns i).t.hi /\ wF c i = (gD c.ns i).s.lo /\ yO c i =
 (gD c.ns i).s.hi
abbrev B6 (c : Cht) : Cht := Cht.mk c.p c.base c.scale c.off (uN c) (vI c)
abbrev Cu : Prop := (0 : Nat) = (0 : Nat)
abbrev Lq : Prop := ∀ (i : Nat), i < (0 : Nat) -> false = false
abbrev lQ : Prop := Int.ofNat (0 : Nat) = Int.ofNat (0 : Nat)
abbrev F6 (c : Cht) : Prop := c.ms.length = c.ms.length
abbrev zG (c : Cht) : Prop := ∀ (i : Nat), i < c.ms.length -> (gD c.ms i).pl = (gD c.ms i).pl /\ (gD c.ms i).ht = (gD c.ms i).ht
abbrev xZ (c : Cht) : Prop := c.ns.length = c.ns.length
abbrev xA (c : Cht) : Prop := ∀ (i : Nat), i < c.ns.length -> (gD c.ns i).mi = (gD c.ns i).mi /\ (gD c.ns i).t.lo = (gD c.ns i).t.lo /\ (gD c.ns i).t.hi = (gD c.ns i).t.hi /\ (gD c.ns i).s.lo = (gD c.ns i).s.lo /\ (gD
 c.ns i).s.hi = (gD c.ns i).s.hi
abbrev xU (c : Cht) : Dk := AX (B6 c)
abbrev Kz (c : Cht) : Cht := (xU c).c
abbrev xY (c : Cht) : Span := (Kz c).p
abbrev zT (c : Cht) : List Mk := (Kz c).ms
abbrev D9 (i : Nat) (c : Cht) : Prop := i < (AX c).c.ms.length
abbrev xL (c : Cht) (i : Nat) : Mk := gD (zT c) i
abbrev aL (c : Cht) : List Nt := (Kz c).ns
abbrev E9 (i : Nat) (c : Cht) : Prop := i < (AX c).c.ns.length
abbrev nP (c : Cht) (i : Nat) : Nt := gD (aL c) i
abbrev aT (c : Cht) (i : Nat) : Int := (gD (AX c).c.ns i).t.lo
abbrev xQ (c : Cht) (i : Nat) : Span := (nP c i).t
abbrev bW (c : Cht) (i : Nat) : Int := (gD (AX c).c.ns i).t.hi
abbrev bV (c : Cht) (i : Nat) : Int := (gD (AX c).c.ns i).s.lo
abbrev xO (c : Cht) (i : Nat) : Span := (nP c i).s
abbrev cS (c : Cht) (i : Nat) : Int := (gD (AX c).c.ns i).s.hi
abbrev Se : Prop := ∀ (i : Nat), i < (40 : Nat) -> false = false
abbrev nF (c : Cht) (n : Int) : Nt := ntOf (aL c) n
abbrev C4 (c : Cht) (n : Int) : Span := (nF c n).t
abbrev yN (c : Cht) (n : Int) : Span := (nF c n).s
abbrev bL (c : Cht) : Prop := c.ns.length = (0 : Nat)
abbrev wY : Prop := (0 : Nat) < (1 : Nat)
abbrev A4 (c : Cht) : Prop := (AX c).c.p.lo = (AX c).c.p.lo
abbrev zS (c : Cht) : Prop := (AX c).c.p.hi = (AX c).c.p.hi
abbrev E1 (c : Cht) : Prop := (AX c).c.base = (AX c).c.base
abbrev yI (c : Cht) : Prop := (AX c).c.scale = (AX c).c.scale
abbrev xS (c : Cht) : Prop := (AX c).c.off = (AX c).c.off
abbrev aN (c : Cht) : Prop := ∀ (n : Int), (AX c).st n = (AX c).st n
abbrev nY (c : Cht) : List Mk := QR (AX c).c.ms.length λ (i : Nat) => gD (AX c).c.ms i
abbrev mO (c : Cht) : Nat := (nY c).length
abbrev D1 (c : Cht) (i : Nat) : Mk := gD (nY c) i
abbrev Sa (c : Cht) : List Nt := QR (AX c).c.ns.length λ (i : Nat) => gD (AX c).c.ns i
abbrev C0 (c : Cht) : Nat := (Sa c).length
abbrev oA (c : Cht) (i : Nat) : Nt := gD (Sa c) i
abbrev wT (c : Cht) (i : Nat) : Span := (oA c i).t
abbrev E2 (c : Cht) (i : Nat) : Span := (oA c i).s
abbrev oB (c : Cht) (n : Int) : Nt := ntOf (Sa c) n
abbrev yT (c : Cht) (n : Int) : Span := (oB c n).t
abbrev wQ (c : Cht) (n : Int) : Span := (oB c n).s
abbrev oG (c : Cht) : Dk := stD (DkZ.mk (Dk.mk (Cht.mk (AX c).c.p (AX c).c.base (AX c).c.scale (AX c).c.off (nY c) (Sa c)) (AX c).st (AX c).sp) (QR (0 : Nat) λ (i : Nat) => default))
abbrev Ml (c : Cht) : Cht := (oG c).c
abbrev aO (c : Cht) : List Nt := (Ml c).ns
abbrev lN (c : Cht) (n : Int) : Nt := ntOf (aO c) n
abbrev zI (c : Cht) (n : Int) : Span := (lN c n).t
abbrev D6 (c : Cht) (n : Int) : Span := (lN c n).s
abbrev nS (c : Cht) : Span := (Ml c).p
abbrev F1 (c : Cht) : Int := (nS c).lo
abbrev zQ (c : Cht) : Prop := F1 c = F1 c
abbrev yG (c : Cht) : Int := (nS c).hi
abbrev E4 (c : Cht) : Prop := yG c = yG c
abbrev nC (c : Cht) : Int := (Ml c).base
abbrev A5 (c : Cht) : Prop := nC c = nC c
abbrev mU (c : Cht) : Int := (Ml c).scale
abbrev xF (c : Cht) : Prop := mU c = mU c
abbrev lV (c : Cht) : Int := (Ml c).off
abbrev xJ (c : Cht) : Prop := lV c = lV c
abbrev E3 (c : Cht) : List Mk := (Ml c).ms
abbrev aZ (c : Cht) : Nat := (E3 c).length
abbrev mM (c : Cht) (i : Nat) : Mk := gD (E3 c) i
abbrev mC (c : Cht) : List Mk := QR (aZ c) λ (i : Nat) => mM c i
abbrev Ls (c : Cht) : Nat := (mC c).length
abbrev yW (c : Cht) (i : Nat) : Mk := gD (mC c) i
abbrev vY (c : Cht) (i : Nat) : Int := (yW c i).pl
abbrev A9 (c : Cht) (i : Nat) : Int := (mM c i).pl
abbrev A1 (c : Cht) (i : Nat) : Int := (yW c i).ht
abbrev zM (c : Cht) (i : Nat) : Int := (mM c i).ht
abbrev bP (c : Cht) : Nat := (aO c).length
abbrev bS (c : Cht) (i : Nat) : Nt := gD (aO c) i
abbrev Sl (c : Cht) : List Nt := QR (bP c) λ (i : Nat) => bS c i
abbrev mS (c : Cht) : Nat := (Sl c).length
abbrev nW (c : Cht) (i : Nat) : Nt := gD (Sl c) i
abbrev xP (c : Cht) (i : Nat) : Int := (nW c i).mi
abbrev xN (c : Cht) (i : Nat) : Int := (bS c i).mi
abbrev zB (c : Cht) (i : Nat) : Span := (nW c i).t
abbrev qK (c : Cht) (i : Nat) : Int := (zB c i).lo
abbrev rQ (c : Cht) (i : Nat) : Span := (bS c i).t
abbrev sS (c : Cht) (i : Nat) : Int := (rQ c i).lo
abbrev qB (c : Cht) (i : Nat) : Int := (zB c i).hi
abbrev sQ (c : Cht) (i : Nat) : Int := (rQ c i).hi
abbrev qM (c : Cht) (i : Nat) : Span := (nW c i).s
abbrev sR (c : Cht) (i : Nat) : Int := (qM c i).lo
abbrev rV (c : Cht) (i : Nat) : Span := (bS c i).s
abbrev sP (c : Cht) (i : Nat) : Int := (rV c i).lo
abbrev pY (c : Cht) (i : Nat) : Int := (qM c i).hi
abbrev rP (c : Cht) (i : Nat) : Int := (rV c i).hi
abbrev eN (c : Cht) (n : Int) : Bool := hasN (Sl c) n
abbrev gM (c : Cht) (n : Int) : Nt := ntOf (Sl c) n
abbrev rD (c : Cht) (n : Int) : Int := (gM c n).mi
abbrev rF (c : Cht) (n : Int) : Span := (gM c n).t
abbrev sT (c : Cht) (n : Int) : Int := (rF c n).lo
abbrev qN (c : Cht) (n : Int) : Int := (rF c n).hi
abbrev qU (c : Cht) (n : Int) : Span := (gM c n).s
abbrev rI (c : Cht) (n : Int) : Int := (qU c n).lo
abbrev qO (c : Cht) (n : Int) : Int := (qU c n).hi
abbrev Ta (c : Cht) : Prop := (vQ c).q.length = (0 : Nat)
abbrev Um (c : Cht) : Prop := (vQ c).r.length = (0 : Nat)
theorem BGB (c : Cht) : (AVO c) = ((c.p.lo = c.p.lo /\ c.p.hi = c.p.hi /\ c.base = c.base /\ c.scale = c.scale /\ c.off = c.off /\ U9 c /\ Y9 c /\ AAB c /\ zY c /\ (lJ c < (4611686018427387904
 : Nat) /\ kG c < (4611686018427387904 : Nat)) /\ AU (B6 c) = (0 : Int)) /\ (∃ (a : One), (Cu /\ Lq /\ (↑c.ns.length : Int) = (↑c.ns.length : Int) /\ lQ /\ c.p.lo = c.p.lo /\ c.p.hi = c.p.hi
 /\ c.base = c.base /\ c.scale = c.scale /\ c.off = c.off /\ F6 c /\ zG c /\ xZ c /\ xA c /\ (AX c).c.p.lo = (xY c).lo /\ (AX c).c.p.hi = (xY c).hi /\ (AX c).c.base = (Kz
 c).base /\ (AX c).c.scale = (Kz c).scale /\ (AX c).c.off = (Kz c).off /\ (AX c).c.ms.length = (zT c).length /\ (∀ (i : Nat), D9 i c -> (gD (AX c).c.ms i).pl = (xL c i).pl /\ (gD (AX
 c).c.ms i).ht = (xL c i).ht) /\ (AX c).c.ns.length = (aL c).length /\ (∀ (i : Nat), E9 i c -> (gD (AX c).c.ns i).mi = (nP c i).mi /\ aT c i = (xQ c i).lo /\ bW c i =
 (xQ c i).hi /\ bV c i = (xO c i).lo /\ cS c i = (xO c i).hi) /\ Se /\ jR = jR /\ (∀ (n : Int), hasN (AX c).c.ns n = hasN (aL c) n) /\ (∀ (n : Int), (AX c).st n =
 (xU c).st n) /\ ∀ (n : Int), (ntOf (AX c).c.ns n).mi = (nF c n).mi /\ (ntOf (AX c).c.ns n).t.lo = (C4 c n).lo /\ (ntOf (AX c).c.ns n).t.hi = (C4 c n).hi /\ (ntOf (AX c).c.ns n).s.lo =
 (yN c n).lo /\ (ntOf (AX c).c.ns n).s.hi = (yN c n).hi) /\ bL c) /\ ∀ (a : One), bL c -> bif decide ((↑(0 : Nat) : Int) < (↑c.ns.length : Int)) then ((True /\ ((0 : Nat) < (0 : Nat) -> (0 : Nat) =
 (1 : Nat))) /\ ((1 : Nat) <= (1 : Nat) /\ (wY -> (1 : Nat) = (1 : Nat))) /\ (false = true -> wY) /\ (1 : Nat) <= (9223372036854775807 : Nat) /\ (8 : Nat) <= (140737488355328 : Nat)) /\ False else (Cu /\
 Lq /\ c.p.lo = c.p.lo /\ c.p.hi = c.p.hi /\ c.base = c.base /\ c.scale = c.scale /\ c.off = c.off /\ U9 c /\ Y9 c /\ AAB c /\ zY c /\ c.p.lo = c.p.lo /\ c.p.hi = c.p.hi /\ c.base = c.base /\ c.scale =
 c.scale /\ c.off = c.off /\ c.ms.length = lJ c /\ (∀ (i : Nat), i < c.ms.length -> (gD c.ms i).pl = S4 c i /\ (gD c.ms i).ht = R3 c i) /\ c.ns.length = kG c /\ ∀ (i : Nat), i < c.ns.length -> (gD c.ns
 i).mi = yK c i /\ (gD c.ns i).t.lo = yQ c i /\ (gD c.ns i).t.hi = wM c i /\ (gD c.ns i).s.lo = wF c i /\ (gD c.ns i).s.hi = yO c i) /\ (∃ (a : One), (Cu /\ Lq /\ Cu /\
 Lq /\ Cu /\ Lq /\ Int.negSucc (0 : Nat) = Int.negSucc (0 : Nat) /\ Cu /\ Lq /\ lQ /\ lQ /\ c.p.lo = c.p.lo /\ c.p.hi = c.p.hi /\ c.base = c.base /\ c.scale = c.scale /\ c.off = c.off
 /\ F6 c /\ zG c /\ xZ c /\ xA c /\ A4 c /\ zS c /\ E1 c /\ yI c /\ xS c /\ (AX c).c.ms.length = (AX c).c.ms.length /\ (∀ (i : Nat), D9 i c -> (gD (AX
 c).c.ms i).pl = (gD (AX c).c.ms i).pl /\ (gD (AX c).c.ms i).ht = (gD (AX c).c.ms i).ht) /\ (AX c).c.ns.length = (AX c).c.ns.length /\ (∀ (i : Nat), E9 i c -> (gD (AX c).c.ns i).mi = (gD (AX c).c.ns i).mi
 /\ aT c i = aT c i /\ bW c i = bW c i /\ bV c i = bV c i /\ cS c i = cS c i) /\ Se /\ jR = jR /\ (∀ (n : Int), hasN (AX c).c.ns n = hasN (AX c).c.ns n) /\
 aN c /\ ∀ (n : Int), (ntOf (AX c).c.ns n).mi = (ntOf (AX c).c.ns n).mi /\ (ntOf (AX c).c.ns n).t.lo = (ntOf (AX c).c.ns n).t.lo /\ (ntOf (AX c).c.ns n).t.hi = (ntOf (AX c).c.ns n).t.hi /\ (ntOf (AX
 c).c.ns n).s.lo = (ntOf (AX c).c.ns n).s.lo /\ (ntOf (AX c).c.ns n).s.hi = (ntOf (AX c).c.ns n).s.hi) /\ bL c) /\ ∀ (a : One), bL c -> (Cu /\ Cu /\ A4 c /\ zS c /\ E1 c /\
 yI c /\ xS c /\ mO c = (AX c).c.ms.length /\ (∀ (i : Nat), i < mO c -> (D1 c i).pl = (gD (AX c).c.ms i).pl /\ (D1 c i).ht = (gD (AX c).c.ms i).ht) /\ C0 c = (AX
 c).c.ns.length /\ (∀ (i : Nat), i < C0 c -> (oA c i).mi = (gD (AX c).c.ns i).mi /\ (wT c i).lo = aT c i /\ (wT c i).hi = bW c i /\ (E2 c i).lo = bV c i /\ (E2 c
 i).hi = cS c i) /\ Se /\ jR = jR /\ (∀ (n : Int), hasN (Sa c) n = hasN (AX c).c.ns n) /\ aN c /\ (∀ (n : Int), (oB c n).mi = (ntOf (AX c).c.ns n).mi /\ (yT c n).lo = (ntOf (AX
 c).c.ns n).t.lo /\ (yT c n).hi = (ntOf (AX c).c.ns n).t.hi /\ (wQ c n).lo = (ntOf (AX c).c.ns n).s.lo /\ (wQ c n).hi = (ntOf (AX c).c.ns n).s.hi) /\ jR = jR /\ (∀ (n : Int), hasN (AX c).c.ns n =
 hasN (aO c) n) /\ (∀ (n : Int), (AX c).st n = (oG c).st n) /\ (∀ (n : Int), (ntOf (AX c).c.ns n).mi = (lN c n).mi /\ (ntOf (AX c).c.ns n).t.lo = (zI c n).lo /\ (ntOf (AX c).c.ns n).t.hi =
 (zI c n).hi /\ (ntOf (AX c).c.ns n).s.lo = (D6 c n).lo /\ (ntOf (AX c).c.ns n).s.hi = (D6 c n).hi) /\ (0 : Nat) < (4611686018427387904 : Nat) /\ mO c <= (40 : Nat)) /\ (zQ c /\ E4 c
 /\ A5 c /\ xF c /\ xJ c /\ Ls c = aZ c /\ (∀ (i : Nat), i < Ls c -> vY c i = A9 c i /\ A1 c i = zM c i) /\ mS c = bP c /\ (∀ (i : Nat), i <
 mS c -> xP c i = xN c i /\ qK c i = sS c i /\ qB c i = sQ c i /\ sR c i = sP c i /\ pY c i = rP c i) /\ Se /\ jR = jR /\ (∀ (n : Int),
 eN c n = hasN (AX c).c.ns n) /\ aN c /\ (∀ (n : Int), rD c n = (ntOf (AX c).c.ns n).mi /\ sT c n = (ntOf (AX c).c.ns n).t.lo /\ qN c n = (ntOf (AX c).c.ns n).t.hi /\ rI c
 n = (ntOf (AX c).c.ns n).s.lo /\ qO c n = (ntOf (AX c).c.ns n).s.hi) /\ zQ c /\ E4 c /\ A5 c /\ xF c /\ xJ c /\ aZ c = Ls c /\ (∀ (i : Nat), i < aZ c ->
 A9 c i = vY c i /\ zM c i = A1 c i) /\ bP c = mS c /\ (∀ (i : Nat), i < bP c -> xN c i = xP c i /\ sS c i = qK c i /\ sQ c i = qB c
 i /\ sP c i = sR c i /\ rP c i = pY c i) /\ Se /\ jR = jR /\ (∀ (n : Int), hasN (AX c).c.ns n = eN c n) /\ aN c /\ (∀ (n : Int), (ntOf (AX c).c.ns n).mi = rD c
 n /\ (ntOf (AX c).c.ns n).t.lo = sT c n /\ (ntOf (AX c).c.ns n).t.hi = qN c n /\ (ntOf (AX c).c.ns n).s.lo = rI c n /\ (ntOf (AX c).c.ns n).s.hi = qO c n) /\ (1 : Nat) <= Ls c /\
 Ls c <= (40 : Nat) /\ ∀ (j : Int), eN c j = true -> (0 : Int) <= j /\ j < (↑(Ls c) : Int)) /\ bif !(IA (Dk.mk (Cht.mk (nS c) (nC c) (mU c) (lV c) (mC c) (Sl
 c)) (AX c).st (oG c).sp)).snd then Ta c /\ Ta c /\ Um c /\ Um c /\ (vQ c).e = (6 : Int) else Ta c /\ Ta c /\ Um c /\ Um c /\ (vQ c).e = (0 : Int)) := by
 kernel_rfl
def BAZ : Ann := ann 101 [(YZ, C_openX.spec oQ)]
def AZD (c : Cht) : Prop := CL Try.prog BAZ Vd (AH Vd) [.d (Ef c)] (AB []) (.tup [.d (JO nilI), .d (bQ nilP), .int (AU c)]) [] [] []
theorem BEI (c : Cht) : (AZD c) = (QQ (NE c (BM c) (λ i=>AZ i c) (BK c) (λ i=>BJ i c) (Gg c c) (XU (VY c))) (VY c) (Y4 AI AI (SD c (VY c))) NG) := by kernel_rfl
theorem BLV (c : Cht) (h1 : c.ms.length < 4611686018427387904 /\ c.ns.length < 4611686018427387904) (h0 : AU c = 0) (hn : c.ns.length = 0) : AVO c := by
 have hl := RA h0
 have hs := oD h0
 rw [BGB]; delta uN lJ U9 V0 S4 R3 Y9 vI kG AAB lX yK zO yQ wM yP wF yO zY B6 Cu Lq lQ F6 zG xZ xA xU Kz xY zT D9 xL aL E9 nP aT xQ bW bV xO cS Se nF C4 yN bL wY A4 zS E1 yI xS aN nY mO D1 Sa C0 oA wT E2 oB yT wQ oG Ml aO lN zI D6 nS F1 zQ yG E4 nC A5 mU xF lV xJ E3 aZ mM mC Ls yW vY A9 A1 zM bP bS Sl mS nW xP xN zB qK rQ sS qB sQ qM sR rV sP pY rP eN gM rD rF sT qN qU rI qO Ta Um; simp only [CC, eq_self, implies_true, forall_const, DN, B5, aF, AKR, U1]
 have hq : (fwE c).q = [] := by unfold fwE; rw [hn]; rfl
 have hr : (fwE c).r = [] := by unfold fwE; rw [hn]; rfl
 refine ⟨⟨h1, h0⟩, ⟨default, hn⟩, λ _ => ⟨λ h => by omega, λ _ => ⟨⟨default, hn⟩, λ _ => ⟨⟨λ n => rfl, by decide, hl.2.1.2⟩, ⟨hl.2.1.1, hl.2.1.2, hs.1⟩, λ hc => ?_, λ hc => ?_⟩⟩⟩⟩
 ·have hc : (IA (stD ⟨AX c, []⟩)).2 = false := hc
  have hc : (IA (fwW c)).2 = false := by unfold fwW; rw [hq]; exact hc
  unfold vQ; rw [hc]; exact ⟨rfl, rfl, rfl, rfl, rfl⟩
 ·have hc : (IA (stD ⟨AX c, []⟩)).2 = true := hc
  have hc : (IA (fwW c)).2 = true := by unfold fwW; rw [hq]; exact hc
  unfold vQ; rw [hc]
  exact ⟨by show (fwE c).q.length = 0; rw [hq]; rfl, by show (fwE c).q.length = 0; rw [hq]; rfl, by show (fwE c).r.length = 0; rw [hr]; rfl, by show (fwE c).r.length = 0; rw [hr]; rfl, rfl⟩
theorem AZZ : AK Try.prog X9 (C_few.spec oQ) := okT C_few (λ (c : Cht) h => by
 obtain ⟨h1, h2⟩ : (c.ms.length < 4611686018427387904 /\ c.ns.length < 4611686018427387904) /\ (AU c = 0 -> c.ns.length <= 14) := h
 by_cases h0 : AU c = 0
 ·have e : C_few.val c = .tup [.d (JO (vQ c).q), .d (bQ (vQ c).r), .int (vQ c).e] := by
   show AVal.tup [.d (JO (oJ c).q), .d (bQ (oJ c).r), .int (oJ c).e] = _
   unfold oJ; rw [h0]; rfl
  rw [e]
  rcases Nat.eq_zero_or_pos c.ns.length with hz | hp
  ·exact Rc (A := AZL c) (L := []) (keep := []) (ren := []) (fz := []) A2 (by kernel_rfl) (AA uH (AA AUE (AA AIG (AA uR AD)))) (BLV c h1 h0 hz)
  ·exact Rc (A := BKK c) (L := []) (keep := []) (ren := []) (fz := []) A2 (by kernel_rfl) (AA uH (AA BNB (AA ARW (AA AIG (AA uR AD))))) (BPV c h1 h0 ⟨hp, h2 h0⟩)
 ·have h0' : (AU c == 0) = false := by simpa using h0
  have e : C_few.val c = .tup [.d (JO nilI), .d (bQ nilP), .int (AU c)] := by
   show AVal.tup [.d (JO (oJ c).q), .d (bQ (oJ c).r), .int (oJ c).e] = _
   unfold oJ; rw [h0']; rfl
  rw [e]
  refine Rc (A := BAZ) (L := []) (keep := []) (ren := []) (fz := []) A2 (by kernel_rfl) (AA uJ AD) ?_
  show AZD c; rw [BEI]<;> delta BA BI FW EX FI CE AC BX CM AQ DX ER GP GA HQ HT HC HR DS GB ED TU NG Ow AE BG AW EO GJ GI AG GM BF BE CK AR CN BD AF JJ CG BC bE Y4 AO CQ GT BS CV JL CY BO CR DD AL KA CF AM AT DM DR RB AS DJ EG FC AP EY FG FS EN CS FV DF KB LQ FU EH ET LP FY FJ EV EJ JS AI KV HJ BK IT KF LM BM EP FQ AZ GN HE GO BJ SD VY UN ZZ Cn QQ Fs NE XU Gg; simp only [CC, eq_self, implies_true, forall_const, DN]
  simp [h1, h0, nilI, nilP]) _
def C_Stops : Ctr := { α := Cht, xs := λ c => [.d (Ef c)], val := λ c => .tup [.d (JO (oJ c).q), .int (oJ c).e], keep := λ _ => [], pre := λ c => [(c.ms.length < 4611686018427387904 /\ c.ns.length < 4611686018427387904) /\ (AU c = 0 -> c.ns.length <= 14)] }
def L5 : Ann := ann 15 [(X9, C_few.spec oQ)]
def APS (c : Cht) : Prop := CL Try.prog L5 AEH (AH AEH) [.d (Ef c)] (AB []) (C_Stops.val c) [] [] []
abbrev cA:=oJ
abbrev dJ a:=cA (EH a)
attribute [go_sem] cA dJ
theorem AUJ (c : Cht) : (APS c) = (AN (NE c (BM c) (λ i=>AZ i c) (BK c) (λ i=>BJ i c) (Gg c c) (BX (Po c) (DH (FS c) 14))) (EK (jT (cA c)) (jT (dJ c))) (PI (jT (cA c)) (jT (dJ c))) (AQ (pM (cA c)) (pM (dJ c)))) := by kernel_rfl
theorem AXK : AK Try.prog AFU (C_Stops.spec oQ) := XM C_Stops (λ _ => L5) [] [] AYF (λ _ => by kernel_rfl) (λ _ => AA AZZ AD) (λ (c : Cht) h => by
 show APS c; rw [AUJ]<;> delta BA BI FW EX FI CE AC BX CM AQ DH ER GP GA HQ HT HC HR DS GB ED BV BQ jT pM cA AE BG AW EO GJ GI AG GM BF BE CK AR CN BD AF JJ CG AO CQ GT BS CV JL CY BO CR DD AL KA CF AM AT DM DR RB AS DJ EG FC AP EY FG FS EN CS FV DF KB LQ FU EH ET AN LP NY FY FJ EV EJ JS HH JF KV HJ BK IT KF LM EK QV MD BM EP FQ GZ AZ RT HE GO Ly ZT BJ dJ PI ZZ Cn Fs NE Po Gg; simp only [CC, eq_self, implies_true, forall_const, DN]; exact h) (λ _ => YR rfl rfl) _
def C_Pairs : Ctr := { α := Cht, xs := λ c => [.d (Ef c)], val := λ c => .tup [.d (bQ (oJ c).r), .int (oJ c).e], keep := λ _ => [], pre := λ c => [(c.ms.length < 4611686018427387904 /\ c.ns.length < 4611686018427387904) /\ (AU c = 0 -> c.ns.length <= 14)] }
def AQC (c : Cht) : Prop := CL Try.prog L5 AHO (AH AHO) [.d (Ef c)] (AB []) (C_Pairs.val c) [] [] []
abbrev rX a:=Wv (dJ a)
attribute [go_sem] rX
theorem AZA (c : Cht) : (AQC c) = (VL (NE c (BM c) (λ i=>AZ i c) (BK c) (λ i=>BJ i c) (Gg c c) (BX (Po c) (DH (FS c) 14))) (CE (WQ (Wv (cA c))) (WQ (rX c))) (λ i=>CS i (WQ (Wv (cA c))) (MK (Wv (cA c)) i) (MK (rX c) i) (MI (Wv (cA c)) i) (MI (rX c) i)) (AQ (pM (cA c)) (pM (dJ c)))) := by kernel_rfl
theorem AVW : AK Try.prog AEL (C_Pairs.spec oQ) := XM C_Pairs (λ _ => L5) [] [] AWT (λ _ => by kernel_rfl) (λ _ => AA AZZ AD) (λ (c : Cht) h => by
 show AQC c; rw [AZA]<;> delta BA BI FW EX FI CE AC BX CM AQ DH ER GP GA HQ HT HC HR DS GB ED WQ Sp Wv pM cA AE BG AW EO GJ GI AG GM BF BE CK AR CN BD AF JJ CG AO CQ GT BS CV JL CY BO CR DD AL KA CF AM AT DM DR RB AS DJ EG FC AP EY FG FS EN CS FV DF KB LQ FU EH ET AN LP FY FJ EV EJ JS JF KV HJ BK IT KF LM BM EP FQ AZ MI MK RT HE GO BJ dJ ZZ Cn Fs rX NE VL Po Gg; simp only [CC, eq_self, implies_true, forall_const, DN]; exact h) (λ _ => YR rfl rfl) _
end Go.Bal
