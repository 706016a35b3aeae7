/- Package chart: the fewest stops. -/
import Derived.Test.YtdbjalgfomknhaaGreatChJ
import Derived.Test.YtdbjalgfomknhaaGreatChPe
import Derived.Test.YtdbjalgfomknhaaGreatChT2
set_option linter.unusedVariables false
set_option linter.unusedSimpArgs false
namespace Go.Bal
open Go Go.Sym Go.Proofs
def idL (n : Nat) : List Int := ME n λ i => (i : Int)
def DF (c : Cht) : List Int := Xq (CV c) (idL c.ns.length)
structure FwS where
 la : Int
 q : List Int
 r : List Pr
 deriving Inhabited
def miA (c : Cht) (a : Int) : Int := (gD c.ns a.toNat).mi
def X2 (c : Cht) (la b a : Int) : Bool := bif decide (miA c a > la) then QT c ⟨a, b⟩ else false
def fwN (c : Cht) (s : FwS) (b : Int) : Option Int -> FwS
 | none => s
 | some a => ⟨wr (miA c b - 1), s.q ++ [wr (miA c b - 1)], s.r ++ [⟨a, b⟩]⟩
def XA (c : Cht) : Nat -> FwS
 | 0 => ⟨-1, [], []⟩
 | k + 1 => fwN c (XA c k) (gD (DF c) k) (((DF c).take k).find? (X2 c (XA c k).la (gD (DF c) k)))
def TT (c : Cht) : FwS := XA c c.ns.length
def fwW (c : Cht) : Dk := stD ⟨AY c, (TT c).q⟩
structure FwR where
 q : List Int
 r : List Pr
 e : Int
def nilI : List Int := []
def nilP : List Pr := []
def dS (c : Cht) : FwR := bif (IL (fwW c)).2 then ⟨(TT c).q, (TT c).r, 0⟩ else ⟨nilI, nilP, 6⟩
def ZU (c : Cht) : FwR := bif AI c == 0 then dS c else ⟨nilI, nilP, AI c⟩
def C_few : Ctr := { α := Cht, xs := λ c => [.d (Ak c)], val := λ c => .tup [.d (PH (ZU c).q), .d (Kw (ZU c).r), .int (ZU c).e], keep := λ _ => [], pre := λ c => [c.ms.length < 4611686018427387904 /\ c.ns.length < 4611686018427387904] }
def fwH (c : Cht) : List (Nat × HCell) := [(201, .live (gI c)), (203, .live (dkB (AY c) 204)), (204, .live (dkM (AY c)))]
def fw6S (c : Cht) (k : Nat) : List (Nat × AVal) := [(1, .bptr 201 0), (5, .bptr 203 0), (29, .int c.ns.length), (30, .int k)]
def fwR : List (Nat × Nat) := [(201, 1000), (203, 2016), (204, 2017)]
def fw6n (c : Cht) : Shape := { α := One, dflt := default, T := λ _ => ⟨(7, .d Ou) :: fw6S c 0, fwH c⟩, inv := λ _ => True, meas := λ _ => 60, first := fwR }
def fw6o (c : Cht) : Shape := { α := Nat, dflt := 0, T := λ k => ⟨(7, .own 202 1 0 k) :: fw6S c k, fwH c ++ [(202, .live (.row 1 k λ i => UH i))]⟩, inv := λ k => 1 <= k /\ k <= c.ns.length, meas := λ k => 50 - k, again := [(202, 9048)] }
def fwB (c : Cht) : List (Nat × AVal) := [(1, .bptr 201 0), (5, .bptr 203 0), (7, .d (PH (DF c)))]
def fw11 (c : Cht) (z : List Nat) : Shape := { α := One, dflt := default, T := λ _ => ⟨fwB c, fwH c⟩, inv := λ _ => True, meas := λ _ => 0, ffz := z }
def fwT (c : Cht) (k : Nat) : List (Nat × AVal) := fwB c ++ [(11, .int (XA c k).la), (41, .d (PH (DF c))), (42, .int c.ns.length), (43, .int k)]
def fwY (c : Cht) (k : Nat) : List (Nat × HCell) := fwH c ++ [(301, .live (.row 1 (XA c k).q.length λ i => UH (gD (XA c k).q i))), (302, .live (.row 2 (XA c k).r.length λ i => ePr (gD (XA c k).r i)))]
def BAA : List (Nat × AVal) := [(9, .d Ou), (10, .d Ou)]
def BGH (c : Cht) (k : Nat) : List (Nat × AVal) := [(9, .own 301 1 0 (XA c k).q.length), (10, .own 302 2 0 (XA c k).r.length)]
def CBH (c : Cht) : Shape := { α := Nat, dflt := 0, T := λ k => ⟨BAA ++ fwT c k, fwH c⟩, inv := λ k => k <= c.ns.length /\ (XA c k).q = [], meas := λ k => c.ns.length - k, tag := [0] }
def CAY (c : Cht) : Shape := { α := Nat, dflt := 0, T := λ k => ⟨BGH c k ++ fwT c k, fwY c k⟩, inv := λ k => k <= c.ns.length /\ 1 <= (XA c k).q.length, meas := λ k => c.ns.length - k, tag := [1] }
def fwJ (c : Cht) (k j : Nat) : List (Nat × AVal) := [(13, .int (gD (DF c) k)), (50, .d (PH ((DF c).take k))), (51, .int k), (52, .int j)]
def CBM (c : Cht) (m : Nat) : Shape := { α := IJ, dflt := default, T := λ s => ⟨fwJ c s.i s.j ++ (BAA ++ fwT c s.i), fwH c⟩, inv := λ s => (s.i < c.ns.length /\ c.ns.length - s.i = m /\ s.j <= s.i /\ ∀ t, t < s.j -> X2 c (XA c s.i).la (gD (DF c) s.i) (gD (DF c) t) = false) /\ (XA c s.i).q = [], meas := λ s => c.ns.length - s.j }
def CBU (c : Cht) (m : Nat) : Shape := { α := IJ, dflt := default, T := λ s => ⟨fwJ c s.i s.j ++ (BGH c s.i ++ fwT c s.i), fwY c s.i⟩, inv := λ s => (s.i < c.ns.length /\ c.ns.length - s.i = m /\ s.j <= s.i /\ ∀ t, t < s.j -> X2 c (XA c s.i).la (gD (DF c) s.i) (gD (DF c) t) = false) /\ 1 <= (XA c s.i).q.length, meas := λ s => c.ns.length - s.j }
def fwT2 (c : Cht) (k : Nat) : List (Nat × AVal) := fwB c ++ [(11, .int (XA c (k + 1)).la), (41, .d (PH (DF c))), (42, .int c.ns.length), (43, .int k)]
def CAN (c : Cht) (m : Nat) : Shape := { α := Nat, dflt := 0, T := λ k => ⟨BAA ++ fwT2 c k, fwH c⟩, inv := λ k => k < c.ns.length /\ c.ns.length - k = m /\ (XA c (k + 1)).q = [], meas := λ _ => 0 }
def BKE (c : Cht) (m : Nat) (f : List (Nat × Nat)) : Shape := { α := Nat, dflt := 0, T := λ k => ⟨BGH c (k + 1) ++ fwT2 c k, fwY c (k + 1)⟩, inv := λ k => k < c.ns.length /\ c.ns.length - k = m /\ 1 <= (XA c (k + 1)).q.length, meas := λ _ => 0, first := f }
def fw26 (c : Cht) (z : List Nat) : Shape := { α := One, dflt := default, T := λ _ => ⟨[(5, .bptr 203 0), (9, .d (PH (TT c).q)), (10, .d (Kw (TT c).r))], [(203, .live (dkB (AY c) 204)), (204, .live (dkM (AY c)))]⟩, inv := λ _ => True, meas := λ _ => 0, ffz := z }
def fw10 (c : Cht) : Shape := { α := One, dflt := default, T := λ _ => ⟨[(1, .bptr 201 0), (5, .bptr 203 0), (7, .own 202 1 0 c.ns.length)], fwH c ++ [(202, .live (.row 1 c.ns.length λ i => UH i))]⟩, inv := λ _ => 1 <= c.ns.length, meas := λ _ => 0 }
def BQG (c : Cht) : Ann := { ann 101 [(UF, C_open.spec aM), (zO, C_srt.spec dGLt), (ABB, C_late.spec dDkP), (AEN, C_stop.spec dDkZ), (zN, C_times.spec T1)] with mt := λ id => id == 8 || id == 23, loops := λ id => if id = 6 then some [fw6n c, fw6o c] else if id = 15 then some [CBH c, CAY c] else none, inner := λ gs id => if id = 18 then (if gs.getD 1 0 = 0 then some [CBM c (gs.getD 0 0)] else some [CBU c (gs.getD 0 0)]) else none, cut := λ id => if id = 10 then some [fw10 c] else if id = 11 then some [fw11 c [202]] else if id = 26 then some [fw26 c [], fw26 c [301, 302]] else none, cutIn := λ gs id => if id = 25 then (if gs.getD 1 0 = 0 then some [CAN c (gs.getD 0 0), BKE c (gs.getD 0 0) [(301, 24048), (302, 24112)]] else some [BKE c (gs.getD 0 0) [(301, 24048), (302, 24112)], BKE c (gs.getD 0 0) []]) else none }
def BSX (c : Cht) : Prop := CF Try.prog (BQG c) Vs (AH Vs) [.d (Ak c)] (AB []) (.tup [.d (PH (dS c).q), .d (Kw (dS c).r), .int (dS c).e]) [] [] []
abbrev Yf:=DF
abbrev ASO:=@List.cons DVal
abbrev bO:=FwR.q
abbrev Yl:=FwR.r
abbrev Xy:=FwR.e
abbrev jL a:=FwS.r (TT a)
abbrev Ni a b:=RQ a (IE b)
abbrev Yo a:=FwS.q (TT a)
abbrev Vx a:=LL a 0
abbrev ABO a b:=DkZ.mk a (Ag (Yo b))
abbrev AEJ a b:=ARI (BS a) b
abbrev VT a:=QE (ABO (AEJ a a) a)
abbrev SR a:=AQ (BS a)
abbrev SE a:=AN (BS a)
abbrev SF a:=AM (BS a)
abbrev SN a:=AJ (BS a)
abbrev Zt a b:=TA (BS a) ML (Le b)
abbrev TI a:=AL (BS a)
abbrev Lg a b:=FwS.r (XA a b)
abbrev Xv a b:=IE (Lg a b)
abbrev Av a b:=FwS.q (XA a b)
abbrev Jc a b c:=IH a (AO b) c
abbrev Mo a:=XJ 1 a
abbrev Ge a:=YQ (Yf a)
abbrev AGZ (a:Nat->Prop) b c d:=Wr (AF a) b (Ge c) d
abbrev Rt (a:Nat->Prop) b c d e:=AGZ a (AS b c) d e
abbrev Gd a b c d e f g:=eC a b c (AL d) e f g
abbrev Gc a b:=Xv a (JR b)
abbrev RB a b:=Av a (JR b)
abbrev dM a:=mD (BS a)
abbrev Rm a:=jD (BS a)
abbrev iA a:=DI (BS a)
abbrev Rc a:=DR (BS a)
abbrev eO a b:=EO a (BS b)
abbrev Pz a:=DX (BS a)
abbrev Zo a b:=FwS.la (XA a b)
abbrev fC a b:=Zo a (JR b)
abbrev iK a b:=DN (Yf a) b
abbrev Kp a b c d:=iQ a (Yf b) (iK c d)
abbrev WF a b:=Xv a (CR b)
abbrev OH a b:=Av a (CR b)
abbrev VX a b:=Zo a (CR b)
abbrev UU a b:=iK a (CR b)
abbrev Qw a b:=ZZ a (CR b)
abbrev Ps a b c:=YY (AO a) b c
abbrev Us a b:=Ww a (AO b)
abbrev Ia a b:=jG (CR a) (Yf b)
abbrev Od a b:=DN (Ia a b) (EE a)
abbrev ACL a b c d:=QP a b b c d
abbrev Vz a b:=WR a b 1
abbrev lT a:=dPr (DVal.agg a)
abbrev lM a b:=ASO (DVal.v (Value.int ON a)) b
abbrev kE a:=lM a (@List.nil DVal)
abbrev Qp a b c d:=lT (ASO (UH (Od a b)) (kE (UU c d)))
abbrev jK a:=FD (BS a)
abbrev mK a:=CJ (Yf a)
abbrev Sg a b c d:=AG a b b c d
abbrev aE a:=iP a (@List.nil Int)
abbrev Rh a:=RU (AO a) BE
attribute [go_sem] Yf ASO bO Yl Xy jL Ni Yo Vx ABO AEJ VT SR SE SF SN Zt TI Lg Xv Av Jc Mo Ge AGZ Rt Gd Gc RB dM Rm iA Rc eO Pz Zo fC iK Kp WF OH VX UU Qw Ps Us Ia Od ACL Vz lT lM kE Qp jK mK Sg aE Rh
theorem BUJ (c : Cht) : (BSX c) = (TV (AJ c) (AL c) (XV c (Hb c c) (Rv c)) (ZB (IN AT FG (AR (QH c) DJ (AJ c) (AL c) (AM c) (AN c) (AQ c) (DX c) (GU (QJ c) (DR c) (λ i=>EI i c) (Bm (BS c) (KY c)) (Ap (BS c) (KY c)) (Cg (BS c) (KY c)) (Bd (BS c) (KY c)) (Ci (BS c) (KY c)) (PO (Bi (BS c) (KY c)) (λ i=>XX i (BS c) (BV (KY c) i) (KY c) i) (An (BS c) (KY c)) (λ i=>YG i (BS c) (WC (BS c) i (KY c) i) i (BD (KY c) i) (BK (KY c) i)) ML BQ (λ i=>Ax (BS c) i (KY c) i) (EK (λ i=>Au (Le c) i (Le (CU c)) i)) (λ i=>NE (NC (BS c) i) (KY c) i (NU (BS c) i) (LH (BS c) i))))) FL) (JF FL 0 (KV c) (RI (Ec (MI 0)) (Vz RD 1) VL VB 8) (HA (λ i=>AD (AG AT (MI i) (QH c) (BR i 0) (IQ c (AR (DI c) (SN c) (TI c) (SF c) (SE c) (SR c) (Pz c) (QJ (BS c)) (JY (Rc c) (λ j=>EI j (BS c)) ML (Rm c) (NK c) (λ j=>OE (BS c) j) (MI i) (AF (λ j=>AX j i (NP j 0))))))) (KR i (AO c)) (JB 50 i 60))) KG) (λ i=>JF (KR i (AO c)) i (KV c) (RI (Vz (BM i) i) (Vz RD 1) UP (VA i) (Ip i 8)) (HA (λ j=>DW (AG AT (SJ j i) (QH c) (BR j i) (IQ c (AR (DI c) (SN c) (TI c) (SF c) (SE c) (SR c) (Pz c) (QJ (BS c)) (JY (Rc c) (λ k=>EI k (BS c)) ML (Rm c) (NK c) (λ k=>OE (BS c) k) (SJ j i) (AF (λ k=>AX k j (HH k (KX k i (BE k) (BE i))))))))) (KR j (AO c)) 50 j i)) (TE (λ j=>IN AT (BY (AO c) i) (IQ c (AR (DI c) (SN c) (TI c) (SF c) (SE c) (SR c) (Pz c) (QJ (BS c)) (JY (Rc c) (λ k=>EI k (BS c)) ML (Rm c) (NK c) (λ k=>OE (BS c) k) (BY (AO c) i) (AF (λ k=>FX k c (FS k)))))) (Ee 1 c))))) (Lo (Ee 1 c) (BC (Sg AT (EZ (CJ (Rh c)) c) (AF (λ i=>ACL i (Rh c) i (BE i))) (AG (AJ c) (AL c) (AM c) (AN c) (GU (AQ c) (BP c) (λ i=>BH i c) (BN c) (FN c) (AJ c) (AL c) (AM c) (JJ (AN c) c (FI c) (IA c) (FJ c) (λ i=>CQ i c) (Or (EU (CJ (Rh c)) 12) (BC (XJ 13 (Rh c)) (EU (CJ (Rh c)) 20) (ndk (Yn c) (Rh c)))) (Gq (Rh c)) (AF (λ i=>SU i (Rh c) i i c)))))) (TE (λ i=>BC (EZ (mK c) c) (CW (XJ (CM (AO c)) (Rh c)) (λ j=>SK j (Yf c) (Xq (Yn c) (Rh c)) (CM j)) (AJ c) (AL c) (AM c) (AN c) (AQ c) (DX c) (GU (QJ c) (DR c) (λ j=>EI j c) (SN c) (TI c) (SF c) (SE c) (SR c) (Zt c c))) FL)) (XL (V2 (GG (HA (λ i=>ZH (Ow FG AT (Ge c) (Rt (λ j=>Kp j c c j) (Zo c i) (-1) c (AR (NP (AO c) (mK c)) (BZ i) (AJ c) (AL c) (AM c) (AN c) (AQ c) (DX c) (GU (QJ c) (DR c) (λ j=>EI j c) (SN c) (TI c) (SF c) (SE c) (SR c) (Zt c c))))) (Jk i c) (aE (Av c i)))) (AF (λ i=>NR (Jc i c (aE (Av c i))) i (KV c) (GG (FF i (mK c) (TV (BX 0) (JM i) (Cd (BE i) (mK c)) (Hl (λ j=>AD (DT (QR (Yf c) (CR j) (iK c i)) (LL (Ia j c) (Rl i)) (AF (λ k=>SK k (Ia j c) (Yf c) (Nu k))) (Jy j (Rl i)) (BZ (EE j)) AT (Ow FG AT (Ge c) (Rt (λ k=>Kp k c c k) (VX c j) (Zo c i) c (AR (QH c) (Jy j i) (AJ c) (AL c) (AM c) (AN c) (AQ c) (DX c) (GU (QJ c) (DR c) (λ k=>EI k c) (SN c) (TI c) (SF c) (SE c) (SR c) (Zt c c)))))) (And (Us j c) (GG (Ps c j i) (Qw j j) (λ k=>Lk k j (GR (X2 c (VX c j) (UU c j) (iK c k)))))) (aE (OH c j)))) (iR (λ j=>ZD (BC (Us j c) (GG (Ps c j i) (Qw j j) (λ k=>Lk k j (GR (X2 c (VX c j) (UU c j) (iK c k))))) (aE (OH c j))) (OU j) (SD j) (WB (EE j) (OU j) (CJ (Ia j c)) (RV (YX (Ia j c) (EE j)) (Od j c) (AO c) (HO (XS (PW c (Od j c)) (VX c j)) (AR (AS (QW (Qp j c c j)) (Od j c)) (AS (QS (Qp j c c j)) (UU c j)) (SN c) (TI c) (SF c) (SE c) (SR c) (BP (BS c)) (PN (BS c) (BN (BS c)) (λ k=>BG k (BS c)) ML BQ (NJ (BS c)) (NK c) (FM (BS c)) (LX (BS c) (CW (JS (BS c)) Ny BQ (HP (BS c)) (NK c) (SC (BS c)) (SB (QW (Qp j c c j)) (jK c) (QS (Qp j c c j))) (Lu (EH (BS c)) 40 (jK c) 20) (AF (λ k=>Iq k (jK c) (BX (NM (BS c) k)) (NM (BS c) k) (EH (BS c)))))))))) (EC (LJ (XS (PW c (Od j c)) (VX c j)) (Xw (CU (BS c)) (Qp j c c j))) (SP (UU c j) (AO c) (EG (Ec (MI 0)) (Vz RD 1) VL VB (UO 8) (ZK WM VL VB 16)) (HA (λ k=>VE (AG (LL (RB c k) 1) AT (MI (Gc c k)) (Ge c) (AGZ (λ l=>Kp l c c l) (Dt (fC c k) (PW c (UU c j))) c (Gd (QH c) (NP k (CR j)) (AJ c) c c (SN c) (EX (TI c) (SF c) (SE c) (SR c) (Pz c) (λ l=>eO l c) (Rc c) (iA c) (CG ML BQ (Rm c) (NK c) (dM c) (LL (RB c k) 1) (λ l=>ACL l (RB c k) l (LZ (PW c (UU c j)))) (MI (Gc c k)) (AF (λ l=>Ao l (Gc c k) (Lg c (JR k)) (Od j c) (UU c j)))))))) (KM k (AO c) (Df (AO c) k i) (Mo (RB c k)))))) (Hl (λ k=>DW (DT (QR (Yf c) (CR k) (UU c j)) (DY (Ia k c) (Ia j c)) (VI (Ia k c) (Ia j c)) (Gk k j) (BR (EE k) (EE j)) AT (Ow FG AT (Ge c) (Rt (λ l=>Kp l c c l) (VX c k) (VX c j) c (AR (QH c) (Gk k j) (AJ c) (AL c) (AM c) (AN c) (AQ c) (DX c) (GU (QJ c) (DR c) (λ l=>EI l c) (SN c) (TI c) (SF c) (SE c) (SR c) (Zt c c)))))) (BC (Us k c) (GG (Ps c k i) (Qw k k) (λ l=>Lk l k (GR (X2 c (VX c k) (UU c k) (iK c l))))) (aE (OH c k))) (AO c) (EE k) (EE j))))) (HA (λ k=>VE (Ow FG AT (Ge c) (Rt (λ l=>Kp l c c l) (fC c k) (VX c j) c (AR (QH c) (NP k (CR j)) (AJ c) (AL c) (AM c) (AN c) (AQ c) (DX c) (GU (QJ c) (DR c) (λ l=>EI l c) (SN c) (TI c) (SF c) (SE c) (SR c) (Zt c c))))) (KM k (AO c) (Df (AO c) k i) (aE (RB c k))))))))) (AF (λ j=>CN (KM j (AO c) (Df (AO c) j i) (aE (RB c j))) (HA (λ k=>WL (Ow FG AT (Ge c) (Rt (λ l=>Kp l c c l) (Zo c k) (fC c j) c (AR (QH c) (BR k j) (AJ c) (AL c) (AM c) (AN c) (AQ c) (DX c) (GU (QJ c) (DR c) (λ l=>EI l c) (SN c) (TI c) (SF c) (SE c) (SR c) (Zt c c))))) (Jc k c (aE (Av c k))) (AO c) k i)))) (λ j=>CN (KM j (AO c) (Df (AO c) j i) (Mo (RB c j))) (HA (λ k=>WL (AG (DY (Av c k) (RB c j)) AT (BY (Xv c k) (Gc c j)) (Ge c) (Rt (λ l=>Kp l c c l) (Zo c k) (fC c j) c (Gd (QH c) (BR k j) (AJ c) c c (SN c) (EX (TI c) (SF c) (SE c) (SR c) (Pz c) (λ l=>eO l c) (Rc c) (iA c) (CG ML BQ (Rm c) (NK c) (dM c) (DY (Av c k) (RB c j)) (λ l=>GF l (Av c k) (RB c j)) (BY (Xv c k) (Gc c j)) (AF (λ l=>QX l (Xv c k) (Lg c k) (Lg c (JR j)) l l))))))) (Jc k c (Mo (Av c k))) (AO c) k i)))) (TE (λ j=>BC (Vx (Yo c)) (Sg (Vx (Yo c)) (RQ (jL c) 0) (SN c) (AG (TI c) (SF c) (SE c) (SR c) (Zt c c))) FL)))) (λ i=>NR (Jc i c (Mo (Av c i))) i (KV c) (V2 (FF i (mK c) (TV (BX 0) (JM i) (Cd (BE i) (mK c)) (Hl (λ j=>TV (QR (Yf c) (CR j) (iK c i)) (LL (Ia j c) (Rl i)) (AR (AF (λ k=>SK k (Ia j c) (Yf c) (Nu k))) (Jy j (Rl i)) (BZ (EE j)) AT (DY (OH c j) (Av c i)) AT (BY (WF c j) (Xv c i)) (Ge c) (Rt (λ k=>Kp k c c k) (VX c j) (Zo c i) c (Gd (QH c) (Jy j i) (AJ c) c c (SN c) (EX (TI c) (SF c) (SE c) (SR c) (Pz c) (λ k=>eO k c) (Rc c) (iA c) (CG ML BQ (Rm c) (NK c) (dM c) (DY (OH c j) (Av c i)) (λ k=>GF k (OH c j) (Av c i)) (BY (WF c j) (Xv c i)) (AF (λ k=>QX k (WF c j) (Lg c (CR j)) (Lg c i) k k))))))) (And (Us j c) (GG (Ps c j i) (Qw j j) (λ k=>Lk k j (GR (X2 c (VX c j) (UU c j) (iK c k)))))) (Mo (OH c j)))) (iR (λ j=>ZD (BC (Us j c) (GG (Ps c j i) (Qw j j) (λ k=>Lk k j (GR (X2 c (VX c j) (UU c j) (iK c k))))) (Mo (OH c j))) (OU j) (SD j) (WB (EE j) (OU j) (CJ (Ia j c)) (RV (YX (Ia j c) (EE j)) (Od j c) (AO c) (HO (XS (PW c (Od j c)) (VX c j)) (AR (AS (QW (Qp j c c j)) (Od j c)) (AS (QS (Qp j c c j)) (UU c j)) (SN c) (TI c) (SF c) (SE c) (SR c) (BP (BS c)) (PN (BS c) (BN (BS c)) (λ k=>BG k (BS c)) ML BQ (NJ (BS c)) (NK c) (FM (BS c)) (LX (BS c) (CW (JS (BS c)) Ny BQ (HP (BS c)) (NK c) (SC (BS c)) (SB (QW (Qp j c c j)) (jK c) (QS (Qp j c c j))) (Lu (EH (BS c)) 40 (jK c) 20) (AF (λ k=>Iq k (jK c) (BX (NM (BS c) k)) (NM (BS c) k) (EH (BS c)))))))))) (EC (LJ (XS (PW c (Od j c)) (VX c j)) (Xw (CU (BS c)) (Qp j c c j))) (SP (UU c j) (AO c) (EG (And (YQ (OH c j)) (PM 0 (OH c j) (BM 1))) (Vz RD 1) UP (VA (CJ (OH c j))) (UO (Ip (CJ (OH c j)) 8)) (ZK (Dj (WF c j) (WF c j)) UP (VA (WF c j)) (Dh (WF c j)))) (HA (λ k=>VE (AG (LL (RB c k) (JR (CJ (OH c j)))) AT (SJ (Gc c k) (WF c j)) (Ge c) (AGZ (λ l=>Kp l c c l) (Dt (fC c k) (PW c (UU c j))) c (Gd (QH c) (NP k (CR j)) (AJ c) c c (SN c) (EX (TI c) (SF c) (SE c) (SR c) (Pz c) (λ l=>eO l c) (Rc c) (iA c) (CG ML BQ (Rm c) (NK c) (dM c) (LL (RB c k) (JR (CJ (OH c j)))) (λ l=>ACL l (RB c k) l (KX l (CJ (OH c j)) (DN (OH c j) l) (LZ (PW c (UU c j))))) (SJ (Gc c k) (WF c j)) (AF (λ l=>Ao l (Gc c k) (Lg c (JR k)) (KX l (WF c j) (VP (Lg c (CR j)) l) (Od j c)) (KX l (WF c j) (Lf (Lg c (CR j)) l) (UU c j))))))))) (KM k (AO c) (Df (AO c) k i) (Mo (RB c k)))))) (Hl (λ k=>DW (AD (QR (Yf c) (CR k) (UU c j)) (DY (Ia k c) (Ia j c)) (AR (VI (Ia k c) (Ia j c)) (Gk k j) (BR (EE k) (EE j)) AT (DY (OH c k) (OH c j)) AT (BY (WF c k) (WF c j)) (Ge c) (Rt (λ l=>Kp l c c l) (VX c k) (VX c j) c (Gd (QH c) (Gk k j) (AJ c) c c (SN c) (EX (TI c) (SF c) (SE c) (SR c) (Pz c) (λ l=>eO l c) (Rc c) (iA c) (CG ML BQ (Rm c) (NK c) (dM c) (DY (OH c k) (OH c j)) (λ l=>GF l (OH c k) (OH c j)) (BY (WF c k) (WF c j)) (AF (λ l=>QX l (WF c k) (Lg c (CR k)) (Lg c (CR j)) l l)))))))) (BC (Us k c) (GG (Ps c k i) (Qw k k) (λ l=>Lk l k (GR (X2 c (VX c k) (UU c k) (iK c l))))) (Mo (OH c k))) (AO c) (EE k) (EE j))))) (HA (λ k=>VE (AG (DY (RB c k) (OH c j)) AT (BY (Gc c k) (WF c j)) (Ge c) (Rt (λ l=>Kp l c c l) (fC c k) (VX c j) c (Gd (QH c) (NP k (CR j)) (AJ c) c c (SN c) (EX (TI c) (SF c) (SE c) (SR c) (Pz c) (λ l=>eO l c) (Rc c) (iA c) (CG ML BQ (Rm c) (NK c) (dM c) (DY (RB c k) (OH c j)) (λ l=>GF l (RB c k) (OH c j)) (BY (Gc c k) (WF c j)) (AF (λ l=>QX l (Gc c k) (Lg c (JR k)) (Lg c (CR j)) l l))))))) (KM k (AO c) (Df (AO c) k i) (Mo (RB c k))))))))) (AF (λ j=>CN (KM j (AO c) (Df (AO c) j i) (Mo (RB c j))) (HA (λ k=>WL (AG (DY (Av c k) (RB c j)) AT (BY (Xv c k) (Gc c j)) (Ge c) (Rt (λ l=>Kp l c c l) (Zo c k) (fC c j) c (Gd (QH c) (BR k j) (AJ c) c c (SN c) (EX (TI c) (SF c) (SE c) (SR c) (Pz c) (λ l=>eO l c) (Rc c) (iA c) (CG ML BQ (Rm c) (NK c) (dM c) (DY (Av c k) (RB c j)) (λ l=>GF l (Av c k) (RB c j)) (BY (Xv c k) (Gc c j)) (AF (λ l=>QX l (Xv c k) (Lg c k) (Lg c (JR j)) l l))))))) (Jc k c (Mo (Av c k))) (AO c) k i))))) (TE (λ j=>GP (DY (Yo c) (Av c i)) (XJ (CM (CJ (Av c i))) (Av c i)) (AF (λ k=>SK k (Yo c) (Av c i) (CM k))) (GU (RQ (jL c) (Xv c i)) (OF (Xv c i)) (λ k=>QX k (IE (jL c)) (jL c) (Lg c i) (CM k) (CM k)) (SN c) (TI c) (SF c) (SE c) (SR c) (Zt c c)) FL)))) (XL (CE (DY (Ag (Yo c)) (Yo c)) (FC (VI (Ag (Yo c)) (Yo c)) (SN c) (FK (BS c)) (SF c) (CG (SE c) (SR c) (BP (BS c)) (HM (BS c)) (BN (BS c)) (FN (BS c)) Ny BQ (AR (NJ (BS c)) (NK c) (FM (BS c)) BQ (EK (λ i=>Ax (BS c) i (VT c) i)) (EK (λ i=>Au (Le c) i (stD (ABO (AEJ c c) c)) i)) (EK (λ i=>NE (NC (BS c) i) (VT c) i (NU (BS c) i) (LH (BS c) i))) (RR (Ag (Yo c))) (SO (BS c))))) (DT (AJ (VT c)) (AL (VT c)) (AM (VT c)) (AN (VT c)) (AQ (VT c)) (BP (VT c)) (PN (VT c) (BN (VT c)) (λ i=>BG i (VT c)) (IY (stD (ABO (AEJ c c) c))) BQ (EK (λ i=>YM (VT c) i (BS c) i)) (NK c) (EK (λ i=>YB (Db (VT c) i) (BS c) i (VT c) i (VT c) i)) (LX (VT c) (CW (JS (VT c)) (λ i=>NB i (stD (ABO (AEJ c c) c))) BQ (EK (λ i=>ZY (BS c) i (VT c) i)) (NK c) (EK (λ i=>ZW (BS c) i (ZQ (VT c) i) i (Hp (VT c) i) (VT c) i)) (WW (VT c)) (SO (VT c)) (EK (λ i=>HX (Bw (VT c) i) i (EH (VT c)))))))) (EC (not (Pd (Xd (rD (CU (VT c)) (Le c) (stD (ABO (AEJ c c) c)))))) (Wq (Vx (bO (dS c))) (Vx (bO (dS c))) (RQ (Yl (dS c)) 0) (Gb (Xy (dS c)))) (Be (DY (bO (dS c)) (Yo c)) (VI (bO (dS c)) (Yo c)) (Ni (Yl (dS c)) (jL c)) (λ i=>QX i (IE (Yl (dS c))) (Yl (dS c)) (jL c) i i) (IM (Xy (dS c)))))))))))) := by kernel_rfl
theorem BFI (a b : Int) : dPr (.agg [UH a, .v (.int .i64 b)]) = ⟨a, b⟩ := rfl
theorem wN (c : Cht) : Dk.mk c (AY c).st (AY c).sp = AY c := rfl
theorem BDJ {c : Cht} (h : nsIn c) : ∀ i, i < c.ns.length -> 0 <= (gD c.ns i).mi /\ (gD c.ns i).mi < c.ms.length := λ i hi => h _ (List.any_eq_true.2 ⟨_, HW hi, by simp⟩)
theorem AXR (n : Nat) : (idL n).length = n := by unfold idL; simp
theorem AJO (c : Cht) : (DF c).Perm (idL c.ns.length) := QQ _ _
theorem AGX (c : Cht) : (DF c).length = c.ns.length := by rw [(AJO c).length_eq, AXR]
theorem BPI (c : Cht) {i : Nat} (hi : i < c.ns.length) : 0 <= gD (DF c) i /\ gD (DF c) i < c.ns.length := by
 have hm : gD (DF c) i ∈ idL c.ns.length := (AJO c).mem_iff.1 (HW (by rw [AGX]; exact hi))
 obtain ⟨k, hk, e⟩ := OV hm
 rw [AXR] at hk
 have e2 : gD (idL c.ns.length) k = (k : Int) := KL _ _ _ hk
 rw [<- e, e2]; omega
theorem BQK {c : Cht} {k : Nat} (hk : k <= c.ns.length) (h : ∀ t, t < k -> X2 c (XA c k).la (gD (DF c) k) (gD (DF c) t) = false) : XA c (k + 1) = XA c k := by
 show fwN c (XA c k) _ (((DF c).take k).find? _) = _
 rw [AOK]
 ·rfl
 ·intro t ht
  have ht : t < k := by rw [List.length_take] at ht; omega
  rw [Ko ht]; exact h t ht
theorem BRS {c : Cht} {k j : Nat} (hk : k <= c.ns.length) (hj : j < k) (h : ∀ t, t < j -> X2 c (XA c k).la (gD (DF c) k) (gD (DF c) t) = false) (h2 : X2 c (XA c k).la (gD (DF c) k) (gD (DF c) j) = true) : XA c (k + 1) = ⟨wr (miA c (gD (DF c) k) - 1), (XA c k).q ++ [wr (miA c (gD (DF c) k) - 1)], (XA c k).r ++ [⟨gD (DF c) j, gD (DF c) k⟩]⟩ := by
 have e : (((DF c).take k).find? (X2 c (XA c k).la (gD (DF c) k))) = some (gD ((DF c).take k) j) := AXG (by rw [List.length_take, AGX]; omega) (λ t ht => by rw [Ko (by omega)]; exact h t ht) (by rw [Ko hj]; exact h2)
 show fwN c (XA c k) _ (((DF c).take k).find? _) = _
 rw [e, Ko hj]; rfl
theorem ALK (c : Cht) : ∀ k, (XA c k).q.length <= k /\ (XA c k).r.length = (XA c k).q.length
 | 0 => ⟨Nat.le_refl _, rfl⟩
 | k + 1 => by
  obtain ⟨h1, h2⟩ := ALK c k
  show (fwN c (XA c k) _ (((DF c).take k).find? _)).q.length <= _ /\ (fwN c (XA c k) _ (((DF c).take k).find? _)).r.length = (fwN c (XA c k) _ (((DF c).take k).find? _)).q.length
  cases ((DF c).take k).find? (X2 c (XA c k).la (gD (DF c) k)) with
  | none => exact ⟨by show (XA c k).q.length <= _; omega, h2⟩
  | some a =>
   refine ⟨?_, ?_⟩
   ·show ((XA c k).q ++ [_]).length <= _
    rw [List.length_append]; simp; omega
   ·show ((XA c k).r ++ [_]).length = ((XA c k).q ++ [_]).length
    rw [List.length_append, List.length_append]; simp; omega
theorem AYN {α : Type} [Inhabited α] (l : List α) (x : α) (i : Nat) (h : i < l.length + 1) : gD (l ++ [x]) i = bif decide (i < l.length) then gD l i else x := by
 rw [Nw]
 by_cases h2 : i < l.length
 ·simp [h2]
 ·have : i - l.length = 0 := by omega
  rw [if_neg h2, this, decide_eq_false h2]; rfl
theorem BVA {key : Int -> Int} {l : List Int} (h : ∀ i j, i < j -> j < l.length -> key (gD l i) ≠ key (gD l j)) : ndk key l := List.pairwise_map.2 (List.pairwise_iff_getElem.2 λ i j hi hj hij => by
 have := h i j hij hj
 simpa [gD, List.getD_eq_getElem?_getD, hi, hj] using this)
theorem BPC {c : Cht} (h0 : AI c = 0) (hn : c.ns.length <= 20) {l : List Int} (hl : l.length = c.ns.length) (hI : ∀ i, i < c.ns.length -> gD l i = (i : Int)) : c.ns.length <= 12 ∨ (13 <= c.ns.length /\ c.ns.length <= 20) /\ ndk (CV c) l := by
 rcases Nat.lt_or_ge 12 c.ns.length with q | q
 ·refine .inr ⟨by omega, BVA λ i j hij hj => ?_⟩
  rw [hI i (by omega), hI j (by omega)]
  exact (MA.1 h0).one i j hij (by omega)
 ·exact .inl q
theorem CCD (c : Cht) (h1 : c.ms.length < 4611686018427387904 /\ c.ns.length < 4611686018427387904) (h0 : AI c = 0) (hn : 1 <= c.ns.length /\ c.ns.length <= 20) : BSX c := by
 have hl := OR h0
 have hs := eT h0
 have hM := BDJ hs.1
 have hO := AGX c
 have hR := λ i (h : i < c.ns.length) => BPI c h
 have hF := ALK c
 rw [BUJ]<;> delta JH zU Hi BI BF EN MM ON Ep EB EA BY AF CN CO AS BE XB EU EC JL FY MN NT LS ET GW FK HV IB HK GV FU HC DV FW EY LD HA FL LC XS EP RX KG QU EK OK GZ Ai AP Le CJ DN LI RU TE Yb Ho Xd Pd VS QW QS Xw IE Xg jG Hl CR EE iR iP Yf ASO bO Yl Xy AD CI AU FT BS GN AG GK AZ AX AE FA V2 BM GQ Wq Sb Wr Ow Sg AW JP BL BD AO AR DD BA VR BK II NC JQ BO BJ CX HI BW BV AJ AQ NU JD AV EH FC Ag NH CK AN AL LH GH JE JO HG FX FQ FO MR AM IV FD Db HE AKM DK ID DR GO CM ES BX CG DO OX BC PI IW HS DX JR HH QE JA CE rD CW PM EZ BQ Kq CS XE EV WP LZ EQ Yo rA CU PX KY FH HQ DZ EW AT DU Kr LL JB Av ED HR Fa HO BR ABO GT FZ GI BN NB GA GC EO HD ARI VM QR YQ Lg PF Lf LG IY IM FS QP DY IH VP SX PQ MP Ff Bw MU IS MW ND MC UD JM NM AEJ Hp EX PO RV DT Xv XJ LB iK DJ Sf Ia GU GR QV Yn LJ VQ iQ HF BP MQ FJ FI ACL EI VT SK UJ GF LV OE BH BG LM IP WR PR Lw VZ DI OU IR UU BZ Zo Ny KT DW OQ YM YJ jD HB YG IQ LU HY NP GG YF GM YX ZQ TQ TK Lu OH ZY NK MJ VY EG HX FG KV Ch XZ CQ GD NE IN Ge UO RQ RD KX RB SF ML HP YB KM lM SE KS Iq PW QH KR RI TL HM FF Od Ao TA XT JF GP SR TP RR MI lT FN mD SN SD ZZ SJ PV Pu IA SP ZW YY OF Df ZO QJ FM TI Cd Jy Qs JJ ZD NJ VX Dy QX LN JS WF WT eC WB Qc kE RP Np Gd Gc NR Ei Ec Pw Lo WW UP SO VI SC Ww Ip VB Ee Rm VA SB SU LX VL Rh Gq Pz Jb AGZ Kp Zc Gk Rc WM Dt Mo VE JY WC XL YW TV Jc Lk Nu Qw Ni Bi Tz Bm An Rl Au Qp Ax Ug Ci Jk Dj dM ZK XV Vq Ap Bd ZB Ps iA Cg Us Dh aE PN XX ZH Be fC eO Gb Rv jL mK Rt Hb jK WL Vx Zt Vz; simp only [CC, eq_self, implies_true, forall_const, CL, rZ, Ws, AKB, wN, BFI]
 have hI : ∀ i, i < c.ns.length -> gD (ME c.ns.length λ i => (i : Int)) i = (i : Int) := λ i hi => KL _ _ _ hi
 have hT : ∀ k j, j < k -> gD ((DF c).take k) j = gD (DF c) j := λ k j h => Ko h
 have hTl : ∀ k, k <= c.ns.length -> ((DF c).take k).length = k := λ k h => by rw [List.length_take, hO]; omega
 have pre : ∀ x ∈ [0], True := λ _ _ => trivial
 refine ⟨⟨h1, h0⟩, ⟨⟨⟨default, trivial⟩, ?_, ?_⟩, λ _ => ⟨⟨⟨hI, BPC h0 hn.2 (rng_length _ _) hI, by omega, ?_⟩, default, hO, Nat.le_refl _, λ _ _ => rfl⟩, ⟨⟨0, ⟨rfl, by rw [hO], rfl⟩, Nat.zero_le _, rfl⟩, ?_, ?_⟩, ?_⟩⟩⟩
 ·refine ⟨λ _ => ⟨by decide, 1, ⟨rfl, by decide, rfl, λ i hi => by omega⟩, by omega, by omega⟩, λ h => h (by omega)⟩
 ·intro a ha
  refine ⟨λ h => ⟨⟨Nat.one_pos, (λ h => by cases h), by omega, by omega⟩, a + 1, ⟨rfl, by rw [TC (by omega) (by omega)]; rfl, rfl, λ i hi => ?_⟩, by omega, by omega⟩, λ h => ⟨default, by omega, by omega⟩⟩
  by_cases h2 : i < a
  ·rw [decide_eq_true h2]; rfl
  ·rw [decide_eq_false h2]; show (i : Int) = a; omega
 ·intro i hi; rw [hI i hi]; omega
 ·rintro k ⟨hk, hq⟩
  refine ⟨λ h => ?_, λ h => ?_⟩
  ·have hk2 : k < c.ns.length := by omega
   refine ⟨⟨⟨by omega, by omega⟩, ⟨by omega, by omega, by omega⟩, ⟨⟨k, 0⟩, ⟨rfl, hTl k hk, λ i hi => ?_, rfl, rfl, rfl, rfl⟩, ⟨hk2, rfl, Nat.zero_le _, λ t ht => absurd ht (Nat.not_lt_zero _)⟩, hq⟩, ?_⟩, ?_, ?_⟩
   ·rw [hT _ _ (by have hi : i < ((DF c).take k).length := hi; rw [hTl k hk] at hi; exact hi), show Int.toNat 0 = 0 from rfl, Nat.zero_add]
   ·rintro y ⟨⟨y1, y2, y3, y4⟩, y5⟩
    have hp : ∀ j, j < y.i -> (bif decide ((gD c.ns (gD ((DF c).take y.i) j).toNat).mi > (XA c y.i).la) then QT c { a := gD ((DF c).take y.i) j, b := gD (DF c) y.i } else false) = X2 c (XA c y.i).la (gD (DF c) y.i) (gD (DF c) j) := λ j hj => by rw [hT _ _ hj]; rfl
    refine ⟨λ hj => ⟨⟨by omega, by rw [hTl _ (by omega)]; exact hj⟩, ⟨by rw [hT _ _ (by omega)]; exact hR _ (by omega), λ _ => ⟨⟨by rw [hT _ _ (by omega)]; exact hR _ (by omega), hR _ y1⟩, ⟨hl.2.1.2, hl.2.2⟩, hM⟩⟩, λ hc => ?_, λ hc => ?_⟩, λ hj => ?_⟩
    ·rw [hp _ (by omega)] at hc
     have e := BRS (by omega) (by omega) y4 hc
     rw [hT _ _ (by omega)]
     have h8 : (XA c y.i).r = [] := List.length_eq_zero_iff.1 (by rw [(hF y.i).2, y5]; rfl)
     refine ⟨hR _ y1, by decide, y.i, ?_, y1, y2, ?_⟩
     ·rw [e, y5, h8]
      refine ⟨rfl, rfl, rfl, rfl, rfl, λ i hi => ?_, rfl, λ i hi => ?_⟩
      ·have hi : i < 1 := hi
       obtain rfl : i = 0 := by omega
       rfl
      ·have hi : i < 1 := hi
       obtain rfl : i = 0 := by omega
       exact ⟨rfl, rfl⟩
     ·rw [e, y5]; exact Nat.one_pos
    ·rw [hp _ (by omega)] at hc
     have e : IntKind.i64.wrap ((y.j : Int) + 1) = ((y.j + 1 : Nat) : Int) := by rw [TC (by omega) (by omega)]; rfl
     refine ⟨⟨y.i, y.j + 1⟩, ⟨rfl, rfl, λ _ _ => rfl, rfl, e.symm, rfl, rfl⟩, ⟨⟨y1, y2, by show y.j + 1 <= y.i; omega, λ t ht => ?_⟩, y5⟩, by show _ - (y.j + 1) < _; omega⟩
     have ht : t < y.j + 1 := ht
     by_cases h2 : t = y.j
     ·subst h2; exact hc
     ·exact y4 t (by omega)
    ·have e := BQK (by omega) (λ t (ht : t < y.i) => y4 t (by omega))
     refine ⟨y.i, ?_, y1, y2, ?_⟩
     ·rw [e]; exact ⟨rfl, rfl⟩
     ·rw [e]; exact y5
   ·rintro k' ⟨g1, g2, g3⟩
    refine ⟨k' + 1, ⟨rfl, by rw [TC (by omega) (by omega)]; rfl⟩, ⟨by omega, g3⟩, by omega⟩
   ·rintro k' ⟨g1, g2, g3⟩
    refine ⟨k' + 1, ⟨rfl, rfl, rfl, by rw [TC (by omega) (by omega)]; rfl, rfl, λ _ _ => rfl, rfl, λ _ _ => ⟨rfl, rfl⟩⟩, ⟨by omega, g3⟩, by omega⟩
  ·have e : k = c.ns.length := by omega
   have h8 : (XA c k).r = [] := List.length_eq_zero_iff.1 (by rw [(hF k).2, hq]; rfl)
   subst e
   exact ⟨default, by show (XA c _).q.length = 0; rw [hq]; rfl, by show (XA c _).q.length = 0; rw [hq]; rfl, by show (XA c _).r.length = 0; rw [h8]; rfl⟩
 ·rintro k ⟨hk, hq⟩
  refine ⟨λ h => ?_, λ h => ?_⟩
  ·have hk2 : k < c.ns.length := by omega
   refine ⟨⟨⟨by omega, by omega⟩, ⟨by omega, by omega, by omega⟩, ⟨⟨k, 0⟩, ⟨rfl, hTl k hk, λ i hi => ?_, rfl, rfl, rfl, rfl, rfl, rfl, rfl, λ _ _ => rfl, rfl, λ _ _ => ⟨rfl, rfl⟩⟩, ⟨hk2, rfl, Nat.zero_le _, λ t ht => absurd ht (Nat.not_lt_zero _)⟩, hq⟩, ?_⟩, ?_⟩
   ·rw [hT _ _ (by have hi : i < ((DF c).take k).length := hi; rw [hTl k hk] at hi; exact hi), show Int.toNat 0 = 0 from rfl, Nat.zero_add]
   ·rintro y ⟨⟨y1, y2, y3, y4⟩, y5⟩
    have hp : ∀ j, j < y.i -> (bif decide ((gD c.ns (gD ((DF c).take y.i) j).toNat).mi > (XA c y.i).la) then QT c { a := gD ((DF c).take y.i) j, b := gD (DF c) y.i } else false) = X2 c (XA c y.i).la (gD (DF c) y.i) (gD (DF c) j) := λ j hj => by rw [hT _ _ hj]; rfl
    refine ⟨λ hj => ⟨⟨by omega, by rw [hTl _ (by omega)]; exact hj⟩, ⟨by rw [hT _ _ (by omega)]; exact hR _ (by omega), λ _ => ⟨⟨by rw [hT _ _ (by omega)]; exact hR _ (by omega), hR _ y1⟩, ⟨hl.2.1.2, hl.2.2⟩, hM⟩⟩, λ hc => ?_, λ hc => ?_⟩, λ hj => ?_⟩
    ·rw [hp _ (by omega)] at hc
     have e := BRS (by omega) (by omega) y4 hc
     rw [hT _ _ (by omega)]
     have h9 := hF y.i
     refine ⟨hR _ y1, ⟨⟨Nat.one_pos, (λ h => by cases h), by omega, by omega⟩, Nat.one_pos, (λ h => by cases h), by omega, by omega⟩, y.i, ?_, y1, y2, ?_⟩
     ·rw [e]
      refine ⟨by simp, by simp, rfl, rfl, by simp, λ i hi => ?_, by simp, λ i hi => ?_⟩
      ·exact AYN _ _ _ (by simpa using hi)
      ·have hi2 : i < (XA c y.i).r.length + 1 := by simpa using hi
       show (gD ((XA c y.i).r ++ [_]) i).a = _ /\ (gD ((XA c y.i).r ++ [_]) i).b = _
       rw [AYN _ _ _ hi2]
       cases decide (i < (XA c y.i).r.length) <;> exact ⟨rfl, rfl⟩
     ·rw [e]; simp
    ·rw [hp _ (by omega)] at hc
     have e : IntKind.i64.wrap ((y.j : Int) + 1) = ((y.j + 1 : Nat) : Int) := by rw [TC (by omega) (by omega)]; rfl
     refine ⟨⟨y.i, y.j + 1⟩, ⟨rfl, rfl, λ _ _ => rfl, rfl, e.symm, rfl, rfl, rfl, rfl, rfl, λ _ _ => rfl, rfl, λ _ _ => ⟨rfl, rfl⟩⟩, ⟨⟨y1, y2, by show y.j + 1 <= y.i; omega, λ t ht => ?_⟩, y5⟩, by show _ - (y.j + 1) < _; omega⟩
     have ht : t < y.j + 1 := ht
     by_cases h2 : t = y.j
     ·subst h2; exact hc
     ·exact y4 t (by omega)
    ·have e := BQK (by omega) (λ t (ht : t < y.i) => y4 t (by omega))
     refine ⟨y.i, ?_, y1, y2, ?_⟩
     ·rw [e]; exact ⟨rfl, rfl, rfl, rfl, rfl, λ _ _ => rfl, rfl, λ _ _ => ⟨rfl, rfl⟩⟩
     ·rw [e]; exact y5
   ·rintro k' ⟨g1, g2, g3⟩
    refine ⟨k' + 1, ⟨rfl, rfl, rfl, by rw [TC (by omega) (by omega)]; rfl, rfl, λ _ _ => rfl, rfl, λ _ _ => ⟨rfl, rfl⟩⟩, ⟨by omega, g3⟩, by omega⟩
  ·have e : k = c.ns.length := by omega
   subst e
   exact ⟨default, rfl, Nat.le_refl _, λ _ _ => rfl, rfl, Nat.le_refl _, λ _ _ => ⟨rfl, rfl⟩⟩
 ·have h9 := hF c.ns.length
  refine ⟨⟨λ _ => rfl, by have : (TT c).q.length <= c.ns.length := h9.1; omega, hl.2.1.2⟩, ⟨hl.2.1.1, hl.2.1.2, hs.1⟩, λ hc => ?_, λ hc => ?_⟩
  ·have hc : (IL (fwW c)).2 = false := hc
   unfold dS; rw [hc]; exact ⟨rfl, rfl, rfl, rfl, rfl⟩
  ·have hc : (IL (fwW c)).2 = true := hc
   unfold dS; rw [hc]; exact ⟨rfl, λ _ _ => rfl, rfl, λ _ _ => ⟨rfl, rfl⟩, rfl⟩
def C_insZ : Ctr := { ro := [100], α := Cht, xs := λ _ => [.d Ou, .int 0, .int 0, .fn (.func WS) [] [.bptr 100 0]], L := λ c => [(100, gI c)], val := λ _ => .d (.tup []), keep := λ c => [(100, .live (gI c))] }
def BKW : List AVal -> Heap -> Option (Cht × List (Nat × Nat) × List Nat)
 | [.d _, _, _, .fn _ _ [.bptr id _]], H => match Hd H id with
  | some q => some (q, [(100, id)], [])
  | none => none
 | _, _ => none
def iz1 (c : Cht) : Shape := { α := One, dflt := default, T := λ _ => ⟨[(0, .d Ou), (1, .int 0), (2, .int 0), (3, .fn (.func WS) [] [.bptr 100 0]), (8, .int 1)], [(100, .live (gI c))]⟩, inv := λ _ => True, meas := λ _ => 0 }
def BLB (c : Cht) : Ann := { ann 53 [] with E := [100], loops := λ id => if id = 1 then some [iz1 c] else none }
def BIM (c : Cht) : Prop := CF Try.prog (BLB c) AHZ (AH AHZ) (C_insZ.xs c) (AB (C_insZ.L c)) (C_insZ.val c) (C_insZ.keep c) [] []
theorem BMM (c : Cht) : (BIM c) = (And (TE (λ i=>VE (Sg FG DJ (AS (XB 1) (XB ((@HMod.hMod Nat Nat Nat (@instHMod Nat Nat.instMod)) (CM 1) (Int.natAbs (xW 2 (IntKind.bits ON)))))) (DG c)) FL)) (XL (DG c))) := by kernel_rfl
theorem BMN : AK Try.prog L6 (C_insZ.spec BKW) := VV C_insZ BLB [] [] AZF (λ _ => by kernel_rfl) (λ _ => AC) (λ (c : Cht) _ => by
 show BIM c; rw [BMM]<;> delta JH Hi BI BF EN ON EB EA BY AF CN CO AS XB ET GW FK HV IB HK GV FU HC DV FW EY FL RX TE Yb xW AD CI AU AG AZ AX AE BM GQ Sg AW BL BD AO AR DD BA BK CX BW BV AJ AQ AV FC CK AN AL HG FX FQ AM HE ID DR CM CG OX BC HS DX HQ AT EO MU UD DJ EI LV DI IQ YF FG DG Lo VE XL; exact ⟨⟨default, by simp; rfl, trivial⟩, λ _ _ => by simp⟩) (λ _ => WY rfl rfl) _
def C_pdqZ : Ctr := { ro := [100], α := Cht, xs := λ _ => [.d Ou, .int 0, .int 0, .any, .fn (.func WS) [] [.bptr 100 0]], L := λ c => [(100, gI c)], val := λ _ => .d (.tup []), keep := λ c => [(100, .live (gI c))] }
def BKJ : List AVal -> Heap -> Option (Cht × List (Nat × Nat) × List Nat)
 | [.d _, _, _, _, .fn _ _ [.bptr id _]], H => match Hd H id with
  | some q => some (q, [(100, id)], [])
  | none => none
 | _, _ => none
def pz2 (c : Cht) : Shape := { α := One, dflt := default, T := λ _ => ⟨[(0, .d Ou), (1, .int 0), (2, .int 0), (3, .any), (4, .fn (.func WS) [] [.bptr 100 0]), (10, .bool true), (11, .bool true)], [(100, .live (gI c))]⟩, inv := λ _ => True, meas := λ _ => 0 }
def BIN (c : Cht) : Ann := { ann 148 [(L6, C_insZ.spec BKW)] with E := [100], loops := λ id => if id = 2 then some [pz2 c] else none }
def BCY (c : Cht) : Prop := CF Try.prog (BIN c) AFC (AH AFC) (C_pdqZ.xs c) (AB (C_pdqZ.L c)) (C_pdqZ.val c) (C_pdqZ.keep c) [] []
theorem BOL (c : Cht) : (BCY c) = (And (TE (λ i=>IN AT FG (Wq DJ DJ KS (DG c)) FL)) (XL (VE (Sg FG DJ (AJ c) (EX (AL c) (AM c) (AN c) (AQ c) (BP c) (λ i=>BH i c) (BN c) (FN c) (LX c (JS c)))) (DG c)))) := by kernel_rfl
theorem BLW : AK Try.prog X7 (C_pdqZ.spec BKJ) := VV C_pdqZ BIN [] [] ATR (λ _ => by kernel_rfl) (λ _ => AA BMN AC) (λ (c : Cht) _ => by
 show BCY c; rw [BOL]<;> delta JH Hi BI BF EN EB EA BY AF CN CO AS XB ET GW FK HV IB HK GV FU HC DV FW EY LD FL LC TE Yb AD CI AU FT GN AG GK AZ AX AE FA BM GQ Wq Sg AW JP BL BD AO AR DD BA BK II BO BJ CX BW BV AJ AQ JD AV EH FC CK AN AL JE JO HG FX FQ FO AM IV FD HE ID DR ES CG OX BC IW HS DX JA EZ EV FH HQ EW AT DU FZ GI BN GA GC EO HD PQ MU IS ND MC UD NM EX DJ BP FJ FI EI UJ LV BH BG IP DI IQ HY YF FG DG CQ GD IN KS FN JS Lo LX VE XL; simp only [CC, eq_self, implies_true, forall_const]; exact ⟨default, trivial⟩) (λ _ => WY rfl rfl) _
def C_sortZ : Ctr := { ro := [100], α := Cht, xs := λ _ => [.d Ou, .fn (.func WS) [] [.bptr 100 0]], L := λ c => [(100, gI c)], val := λ _ => .d (.tup []), keep := λ c => [(100, .live (gI c))] }
def BAB : List AVal -> Heap -> Option (Cht × List (Nat × Nat) × List Nat)
 | [.d _, .fn _ _ [.bptr id _]], H => match Hd H id with
  | some q => some (q, [(100, id)], [])
  | none => none
 | _, _ => none
def AYL : Ann := { ann 14 [(lK, AKK), (X7, C_pdqZ.spec BKJ)] with E := [100] }
def AXH (c : Cht) : Prop := CF Try.prog AYL gS (AH gS) (C_sortZ.xs c) (AB (C_sortZ.L c)) (C_sortZ.val c) (C_sortZ.keep c) [] []
theorem BKF (c : Cht) : (AXH c) = (And (CE (BX (VO (BE 0))) (Gi (VO (BE 0))) AT (Sg FG DJ (AJ c) (EX (AL c) (AM c) (AN c) (AQ c) (BP c) (λ i=>BH i c) (BN c) (FN c) (LX c (JS c))))) (DG c)) := by kernel_rfl
theorem BGX : AK Try.prog zO (C_sortZ.spec BAB) := VV C_sortZ (λ _ => AYL) [] [] AFE (λ _ => by kernel_rfl) (λ _ => AA BDR (AA BLW AC)) (λ (c : Cht) _ => by
 show AXH c; rw [BKF]<;> delta JH Hi BI BF EN MM EB EA BY AF CN CO AS BE XB FY ET GW FK HV IB HK GV FU HC DV FW EY LD Om AD CI AU FT GN AG GK AZ AX AE FA BM GQ Sg AW JP BL BD AO AR DD BA BK II BO BJ CX BW BV AJ AQ JD AV EH FC CK AN AL JE JO HG FX FQ FO AM IV FD HE ID DR ES BX CG OX IW HS DX JA CE EZ EV FH HQ EW AT DU FZ GI BN GA GC EO HD PQ MU IS ND MC UD NM EX DJ VO BP FJ FI EI UJ LV BH BG IP DI IQ HY YF FG DG CQ GD FN JS LX Gi; simp only [CC, eq_self, implies_true, forall_const]; rw [u64w (by omega) (by omega)]; omega) (λ _ => WY rfl rfl) _
def fz6 (c : Cht) : Shape := { α := One, dflt := default, T := λ _ => ⟨(7, .d Ou) :: fw6S c 0, fwH c⟩, inv := λ _ => c.ns.length = 0, meas := λ _ => 60, first := fwR }
def fz15 (c : Cht) : Shape := { α := One, dflt := default, T := λ _ => ⟨BAA ++ [(1, .bptr 201 0), (5, .bptr 203 0), (7, .d Ou), (11, .int (-1)), (41, .d Ou), (42, .int 0), (43, .int 0)], fwH c⟩, inv := λ _ => c.ns.length = 0, meas := λ _ => 60 }
def BIJ (c : Cht) : Ann := { ann 101 [(UF, C_open.spec aM), (zO, C_sortZ.spec BAB), (AEN, C_stop.spec dDkZ), (zN, C_times.spec T1)] with loops := λ id => if id = 6 then some [fz6 c] else if id = 15 then some [fz15 c] else none }
def BEA (c : Cht) : Prop := CF Try.prog (BIJ c) Vs (AH Vs) [.d (Ak c)] (AB []) (.tup [.d (PH (dS c).q), .d (Kw (dS c).r), .int (dS c).e]) [] [] []
abbrev wQ (c : Cht) : List Mk := ME c.ms.length λ (i : Nat) => gD c.ms i
abbrev lN (c : Cht) : Nat := (wQ c).length
abbrev AHI (c : Cht) : Prop := lN c = c.ms.length
abbrev AFD (c : Cht) (i : Nat) : Mk := gD (wQ c) i
abbrev AHN (c : Cht) (i : Nat) : Int := (AFD c i).pl
abbrev AGV (c : Cht) (i : Nat) : Int := (AFD c i).ht
abbrev AAT (c : Cht) : Prop := ∀ (i : Nat), i < lN c -> AHN c i = (gD c.ms i).pl /\ AGV c i = (gD c.ms i).ht
abbrev yH (c : Cht) : List Nt := ME c.ns.length λ (i : Nat) => gD c.ns i
abbrev kF (c : Cht) : Nat := (yH c).length
abbrev ACP (c : Cht) : Prop := kF c = c.ns.length
abbrev mV (c : Cht) (i : Nat) : Nt := gD (yH c) i
abbrev S3 (c : Cht) (i : Nat) : Int := (mV c i).mi
abbrev Q7 (c : Cht) (i : Nat) : Span := (mV c i).t
abbrev L8 (c : Cht) (i : Nat) : Int := (Q7 c i).lo
abbrev D0 (c : Cht) (i : Nat) : Int := (Q7 c i).hi
abbrev P6 (c : Cht) (i : Nat) : Span := (mV c i).s
abbrev J0 (c : Cht) (i : Nat) : Int := (P6 c i).lo
abbrev I1 (c : Cht) (i : Nat) : Int := (P6 c i).hi
abbrev S8 (c : Cht) : Prop := ∀ (i : Nat), i < kF c -> S3 c i = (gD c.ns i).mi /\ L8 c i = (gD c.ns i).t.lo /\ D0 c i = (gD c.ns i).t.hi /\ J0 c i = (gD c.ns i).s.lo /\ I1 c i =
 (gD c.ns i).s.hi
abbrev C0 (c : Cht) : Cht := Cht.mk c.p c.base c.scale c.off (wQ c) (yH c)
abbrev Cs : Prop := (0 : Nat) = (0 : Nat)
abbrev Ly : Prop := ∀ (i : Nat), i < (0 : Nat) -> false = false
abbrev nW : Prop := Int.ofNat (0 : Nat) = Int.ofNat (0 : Nat)
abbrev A3 (c : Cht) : Prop := c.ms.length = c.ms.length
abbrev H4 (c : Cht) : Prop := ∀ (i : Nat), i < c.ms.length -> (gD c.ms i).pl = (gD c.ms i).pl /\ (gD c.ms i).ht = (gD c.ms i).ht
abbrev B9 (c : Cht) : Prop := c.ns.length = c.ns.length
abbrev O4 (c : Cht) : Prop := ∀ (i : Nat), i < c.ns.length -> (gD c.ns i).mi = (gD c.ns i).mi /\ (gD c.ns i).t.lo = (gD c.ns i).t.lo /\ (gD c.ns i).t.hi = (gD c.ns i).t.hi /\ (gD c.ns i).s.lo = (gD c.ns i).s.lo /\ (gD
 c.ns i).s.hi = (gD c.ns i).s.hi
abbrev D5 (c : Cht) : Dk := AY (C0 c)
abbrev Nc (c : Cht) : Cht := (D5 c).c
abbrev M2 (c : Cht) : Span := (Nc c).p
abbrev P5 (c : Cht) : List Mk := (Nc c).ms
abbrev T7 (i : Nat) (c : Cht) : Prop := i < (AY c).c.ms.length
abbrev I4 (c : Cht) (i : Nat) : Mk := gD (P5 c) i
abbrev bS (c : Cht) : List Nt := (Nc c).ns
abbrev O1 (i : Nat) (c : Cht) : Prop := i < (AY c).c.ns.length
abbrev pM (c : Cht) (i : Nat) : Nt := gD (bS c) i
abbrev bU (c : Cht) (i : Nat) : Int := (gD (AY c).c.ns i).t.lo
abbrev C3 (c : Cht) (i : Nat) : Span := (pM c i).t
abbrev cP (c : Cht) (i : Nat) : Int := (gD (AY c).c.ns i).t.hi
abbrev bF (c : Cht) (i : Nat) : Int := (gD (AY c).c.ns i).s.lo
abbrev A1 (c : Cht) (i : Nat) : Span := (pM c i).s
abbrev bX (c : Cht) (i : Nat) : Int := (gD (AY c).c.ns i).s.hi
abbrev To : Prop := ∀ (i : Nat), i < (40 : Nat) -> false = false
abbrev nU (c : Cht) (n : Int) : Nt := ntOf (bS c) n
abbrev O6 (c : Cht) (n : Int) : Span := (nU c n).t
abbrev T6 (c : Cht) (n : Int) : Span := (nU c n).s
abbrev bV (c : Cht) : Prop := c.ns.length = (0 : Nat)
abbrev A2 : Prop := (0 : Nat) < (1 : Nat)
abbrev K7 (c : Cht) : Prop := (AY c).c.p.lo = (AY c).c.p.lo
abbrev T9 (c : Cht) : Prop := (AY c).c.p.hi = (AY c).c.p.hi
abbrev E4 (c : Cht) : Prop := (AY c).c.base = (AY c).c.base
abbrev N0 (c : Cht) : Prop := (AY c).c.scale = (AY c).c.scale
abbrev H7 (c : Cht) : Prop := (AY c).c.off = (AY c).c.off
abbrev aY (c : Cht) : Prop := ∀ (n : Int), (AY c).st n = (AY c).st n
abbrev pQ (c : Cht) : List Mk := ME (AY c).c.ms.length λ (i : Nat) => gD (AY c).c.ms i
abbrev qF (c : Cht) : Nat := (pQ c).length
abbrev F7 (c : Cht) (i : Nat) : Mk := gD (pQ c) i
abbrev Tg (c : Cht) : List Nt := ME (AY c).c.ns.length λ (i : Nat) => gD (AY c).c.ns i
abbrev K6 (c : Cht) : Nat := (Tg c).length
abbrev oY (c : Cht) (i : Nat) : Nt := gD (Tg c) i
abbrev zV (c : Cht) (i : Nat) : Span := (oY c i).t
abbrev G2 (c : Cht) (i : Nat) : Span := (oY c i).s
abbrev oU (c : Cht) (n : Int) : Nt := ntOf (Tg c) n
abbrev S1 (c : Cht) (n : Int) : Span := (oU c n).t
abbrev zX (c : Cht) (n : Int) : Span := (oU c n).s
abbrev nV (c : Cht) : Dk := stD (DkZ.mk (Dk.mk (Cht.mk (AY c).c.p (AY c).c.base (AY c).c.scale (AY c).c.off (pQ c) (Tg c)) (AY c).st (AY c).sp) (ME (0 : Nat) λ (i : Nat) => default))
abbrev Lz (c : Cht) : Cht := (nV c).c
abbrev bP (c : Cht) : List Nt := (Lz c).ns
abbrev pS (c : Cht) (n : Int) : Nt := ntOf (bP c) n
abbrev D8 (c : Cht) (n : Int) : Span := (pS c n).t
abbrev I8 (c : Cht) (n : Int) : Span := (pS c n).s
abbrev pR (c : Cht) : Span := (Lz c).p
abbrev O7 (c : Cht) : Int := (pR c).lo
abbrev J5 (c : Cht) : Prop := O7 c = O7 c
abbrev zZ (c : Cht) : Int := (pR c).hi
abbrev C6 (c : Cht) : Prop := zZ c = zZ c
abbrev oO (c : Cht) : Int := (Lz c).base
abbrev H8 (c : Cht) : Prop := oO c = oO c
abbrev nP (c : Cht) : Int := (Lz c).scale
abbrev G7 (c : Cht) : Prop := nP c = nP c
abbrev nK (c : Cht) : Int := (Lz c).off
abbrev A6 (c : Cht) : Prop := nK c = nK c
abbrev C5 (c : Cht) : List Mk := (Lz c).ms
abbrev cG (c : Cht) : Nat := (C5 c).length
abbrev oF (c : Cht) (i : Nat) : Mk := gD (C5 c) i
abbrev oV (c : Cht) : List Mk := ME (cG c) λ (i : Nat) => oF c i
abbrev Mx (c : Cht) : Nat := (oV c).length
abbrev M1 (c : Cht) (i : Nat) : Mk := gD (oV c) i
abbrev M9 (c : Cht) (i : Nat) : Int := (M1 c i).pl
abbrev F8 (c : Cht) (i : Nat) : Int := (oF c i).pl
abbrev K8 (c : Cht) (i : Nat) : Int := (M1 c i).ht
abbrev K0 (c : Cht) (i : Nat) : Int := (oF c i).ht
abbrev bH (c : Cht) : Nat := (bP c).length
abbrev bW (c : Cht) (i : Nat) : Nt := gD (bP c) i
abbrev Ti (c : Cht) : List Nt := ME (bH c) λ (i : Nat) => bW c i
abbrev nD (c : Cht) : Nat := (Ti c).length
abbrev nO (c : Cht) (i : Nat) : Nt := gD (Ti c) i
abbrev G9 (c : Cht) (i : Nat) : Int := (nO c i).mi
abbrev B5 (c : Cht) (i : Nat) : Int := (bW c i).mi
abbrev T2 (c : Cht) (i : Nat) : Span := (nO c i).t
abbrev vG (c : Cht) (i : Nat) : Int := (T2 c i).lo
abbrev sI (c : Cht) (i : Nat) : Span := (bW c i).t
abbrev sQ (c : Cht) (i : Nat) : Int := (sI c i).lo
abbrev vA (c : Cht) (i : Nat) : Int := (T2 c i).hi
abbrev uC (c : Cht) (i : Nat) : Int := (sI c i).hi
abbrev vR (c : Cht) (i : Nat) : Span := (nO c i).s
abbrev tG (c : Cht) (i : Nat) : Int := (vR c i).lo
abbrev tY (c : Cht) (i : Nat) : Span := (bW c i).s
abbrev vE (c : Cht) (i : Nat) : Int := (tY c i).lo
abbrev sD (c : Cht) (i : Nat) : Int := (vR c i).hi
abbrev rM (c : Cht) (i : Nat) : Int := (tY c i).hi
abbrev gJ (c : Cht) (n : Int) : Bool := hasN (Ti c) n
abbrev gG (c : Cht) (n : Int) : Nt := ntOf (Ti c) n
abbrev vO (c : Cht) (n : Int) : Int := (gG c n).mi
abbrev sE (c : Cht) (n : Int) : Span := (gG c n).t
abbrev rX (c : Cht) (n : Int) : Int := (sE c n).lo
abbrev vS (c : Cht) (n : Int) : Int := (sE c n).hi
abbrev tE (c : Cht) (n : Int) : Span := (gG c n).s
abbrev rN (c : Cht) (n : Int) : Int := (tE c n).lo
abbrev vW (c : Cht) (n : Int) : Int := (tE c n).hi
abbrev Wd (c : Cht) : Prop := (dS c).q.length = (0 : Nat)
abbrev Wa (c : Cht) : Prop := (dS c).r.length = (0 : Nat)
theorem BMX (c : Cht) : (BEA c) = ((c.p.lo = c.p.lo /\ c.p.hi = c.p.hi /\ c.base = c.base /\ c.scale = c.scale /\ c.off = c.off /\ AHI c /\ AAT c /\ ACP c /\ S8 c /\ (lN c < (4611686018427387904
 : Nat) /\ kF c < (4611686018427387904 : Nat)) /\ AI (C0 c) = (0 : Int)) /\ (∃ (a : One), (Cs /\ Ly /\ (↑c.ns.length : Int) = (↑c.ns.length : Int) /\ nW /\ c.p.lo = c.p.lo /\ c.p.hi = c.p.hi
 /\ c.base = c.base /\ c.scale = c.scale /\ c.off = c.off /\ A3 c /\ H4 c /\ B9 c /\ O4 c /\ (AY c).c.p.lo = (M2 c).lo /\ (AY c).c.p.hi = (M2 c).hi /\ (AY c).c.base = (Nc
 c).base /\ (AY c).c.scale = (Nc c).scale /\ (AY c).c.off = (Nc c).off /\ (AY c).c.ms.length = (P5 c).length /\ (∀ (i : Nat), T7 i c -> (gD (AY c).c.ms i).pl = (I4 c i).pl /\ (gD (AY
 c).c.ms i).ht = (I4 c i).ht) /\ (AY c).c.ns.length = (bS c).length /\ (∀ (i : Nat), O1 i c -> (gD (AY c).c.ns i).mi = (pM c i).mi /\ bU c i = (C3 c i).lo /\ cP c i =
 (C3 c i).hi /\ bF c i = (A1 c i).lo /\ bX c i = (A1 c i).hi) /\ To /\ lB = lB /\ (∀ (n : Int), hasN (AY c).c.ns n = hasN (bS c) n) /\ (∀ (n : Int), (AY c).st n =
 (D5 c).st n) /\ ∀ (n : Int), (ntOf (AY c).c.ns n).mi = (nU c n).mi /\ (ntOf (AY c).c.ns n).t.lo = (O6 c n).lo /\ (ntOf (AY c).c.ns n).t.hi = (O6 c n).hi /\ (ntOf (AY c).c.ns n).s.lo =
 (T6 c n).lo /\ (ntOf (AY c).c.ns n).s.hi = (T6 c n).hi) /\ bV c) /\ ∀ (a : One), bV c -> bif decide ((↑(0 : Nat) : Int) < (↑c.ns.length : Int)) then ((True /\ ((0 : Nat) < (0 : Nat) -> (0 : Nat) =
 (1 : Nat))) /\ ((1 : Nat) <= (1 : Nat) /\ (A2 -> (1 : Nat) = (1 : Nat))) /\ (false = true -> A2) /\ (1 : Nat) <= (9223372036854775807 : Nat) /\ (8 : Nat) <= (140737488355328 : Nat)) /\ False else (Cs /\
 Ly /\ c.p.lo = c.p.lo /\ c.p.hi = c.p.hi /\ c.base = c.base /\ c.scale = c.scale /\ c.off = c.off /\ AHI c /\ AAT c /\ ACP c /\ S8 c /\ c.p.lo = c.p.lo /\ c.p.hi = c.p.hi /\ c.base = c.base /\ c.scale =
 c.scale /\ c.off = c.off /\ c.ms.length = lN c /\ (∀ (i : Nat), i < c.ms.length -> (gD c.ms i).pl = AHN c i /\ (gD c.ms i).ht = AGV c i) /\ c.ns.length = kF c /\ ∀ (i : Nat), i < c.ns.length -> (gD c.ns
 i).mi = S3 c i /\ (gD c.ns i).t.lo = L8 c i /\ (gD c.ns i).t.hi = D0 c i /\ (gD c.ns i).s.lo = J0 c i /\ (gD c.ns i).s.hi = I1 c i) /\ (∃ (a : One), (Cs /\ Ly /\ Cs /\
 Ly /\ Cs /\ Ly /\ Int.negSucc (0 : Nat) = Int.negSucc (0 : Nat) /\ Cs /\ Ly /\ nW /\ nW /\ c.p.lo = c.p.lo /\ c.p.hi = c.p.hi /\ c.base = c.base /\ c.scale = c.scale /\ c.off = c.off
 /\ A3 c /\ H4 c /\ B9 c /\ O4 c /\ K7 c /\ T9 c /\ E4 c /\ N0 c /\ H7 c /\ (AY c).c.ms.length = (AY c).c.ms.length /\ (∀ (i : Nat), T7 i c -> (gD (AY
 c).c.ms i).pl = (gD (AY c).c.ms i).pl /\ (gD (AY c).c.ms i).ht = (gD (AY c).c.ms i).ht) /\ (AY c).c.ns.length = (AY c).c.ns.length /\ (∀ (i : Nat), O1 i c -> (gD (AY c).c.ns i).mi = (gD (AY c).c.ns i).mi
 /\ bU c i = bU c i /\ cP c i = cP c i /\ bF c i = bF c i /\ bX c i = bX c i) /\ To /\ lB = lB /\ (∀ (n : Int), hasN (AY c).c.ns n = hasN (AY c).c.ns n) /\
 aY c /\ ∀ (n : Int), (ntOf (AY c).c.ns n).mi = (ntOf (AY c).c.ns n).mi /\ (ntOf (AY c).c.ns n).t.lo = (ntOf (AY c).c.ns n).t.lo /\ (ntOf (AY c).c.ns n).t.hi = (ntOf (AY c).c.ns n).t.hi /\ (ntOf (AY
 c).c.ns n).s.lo = (ntOf (AY c).c.ns n).s.lo /\ (ntOf (AY c).c.ns n).s.hi = (ntOf (AY c).c.ns n).s.hi) /\ bV c) /\ ∀ (a : One), bV c -> (Cs /\ Cs /\ K7 c /\ T9 c /\ E4 c /\
 N0 c /\ H7 c /\ qF c = (AY c).c.ms.length /\ (∀ (i : Nat), i < qF c -> (F7 c i).pl = (gD (AY c).c.ms i).pl /\ (F7 c i).ht = (gD (AY c).c.ms i).ht) /\ K6 c = (AY
 c).c.ns.length /\ (∀ (i : Nat), i < K6 c -> (oY c i).mi = (gD (AY c).c.ns i).mi /\ (zV c i).lo = bU c i /\ (zV c i).hi = cP c i /\ (G2 c i).lo = bF c i /\ (G2 c
 i).hi = bX c i) /\ To /\ lB = lB /\ (∀ (n : Int), hasN (Tg c) n = hasN (AY c).c.ns n) /\ aY c /\ (∀ (n : Int), (oU c n).mi = (ntOf (AY c).c.ns n).mi /\ (S1 c n).lo = (ntOf (AY
 c).c.ns n).t.lo /\ (S1 c n).hi = (ntOf (AY c).c.ns n).t.hi /\ (zX c n).lo = (ntOf (AY c).c.ns n).s.lo /\ (zX c n).hi = (ntOf (AY c).c.ns n).s.hi) /\ lB = lB /\ (∀ (n : Int), hasN (AY c).c.ns n =
 hasN (bP c) n) /\ (∀ (n : Int), (AY c).st n = (nV c).st n) /\ (∀ (n : Int), (ntOf (AY c).c.ns n).mi = (pS c n).mi /\ (ntOf (AY c).c.ns n).t.lo = (D8 c n).lo /\ (ntOf (AY c).c.ns n).t.hi =
 (D8 c n).hi /\ (ntOf (AY c).c.ns n).s.lo = (I8 c n).lo /\ (ntOf (AY c).c.ns n).s.hi = (I8 c n).hi) /\ (0 : Nat) < (4611686018427387904 : Nat) /\ qF c <= (40 : Nat)) /\ (J5 c /\ C6 c
 /\ H8 c /\ G7 c /\ A6 c /\ Mx c = cG c /\ (∀ (i : Nat), i < Mx c -> M9 c i = F8 c i /\ K8 c i = K0 c i) /\ nD c = bH c /\ (∀ (i : Nat), i <
 nD c -> G9 c i = B5 c i /\ vG c i = sQ c i /\ vA c i = uC c i /\ tG c i = vE c i /\ sD c i = rM c i) /\ To /\ lB = lB /\ (∀ (n : Int),
 gJ c n = hasN (AY c).c.ns n) /\ aY c /\ (∀ (n : Int), vO c n = (ntOf (AY c).c.ns n).mi /\ rX c n = (ntOf (AY c).c.ns n).t.lo /\ vS c n = (ntOf (AY c).c.ns n).t.hi /\ rN c
 n = (ntOf (AY c).c.ns n).s.lo /\ vW c n = (ntOf (AY c).c.ns n).s.hi) /\ J5 c /\ C6 c /\ H8 c /\ G7 c /\ A6 c /\ cG c = Mx c /\ (∀ (i : Nat), i < cG c ->
 F8 c i = M9 c i /\ K0 c i = K8 c i) /\ bH c = nD c /\ (∀ (i : Nat), i < bH c -> B5 c i = G9 c i /\ sQ c i = vG c i /\ uC c i = vA c
 i /\ vE c i = tG c i /\ rM c i = sD c i) /\ To /\ lB = lB /\ (∀ (n : Int), hasN (AY c).c.ns n = gJ c n) /\ aY c /\ (∀ (n : Int), (ntOf (AY c).c.ns n).mi = vO c
 n /\ (ntOf (AY c).c.ns n).t.lo = rX c n /\ (ntOf (AY c).c.ns n).t.hi = vS c n /\ (ntOf (AY c).c.ns n).s.lo = rN c n /\ (ntOf (AY c).c.ns n).s.hi = vW c n) /\ (1 : Nat) <= Mx c /\
 Mx c <= (40 : Nat) /\ ∀ (j : Int), gJ c j = true -> (0 : Int) <= j /\ j < (↑(Mx c) : Int)) /\ bif !(IL (Dk.mk (Cht.mk (pR c) (oO c) (nP c) (nK c) (oV c) (Ti
 c)) (AY c).st (nV c).sp)).snd then Wd c /\ Wd c /\ Wa c /\ Wa c /\ (dS c).e = (6 : Int) else Wd c /\ Wd c /\ Wa c /\ Wa c /\ (dS c).e = (0 : Int)) := by
 kernel_rfl
def BHI : Ann := ann 101 [(UF, C_openX.spec aM)]
def BJI (c : Cht) : Prop := CF Try.prog BHI Vs (AH Vs) [.d (Ak c)] (AB []) (.tup [.d (PH nilI), .d (Kw nilP), .int (AI c)]) [] [] []
abbrev ACV a b:=AJC a a b
attribute [go_sem] ACV
theorem BOG (c : Cht) : (BJI c) = (SA c c (Hb c c) (UV (SQ c)) (EC (XN c) (ACV AT (PY c (SQ c))) KG)) := by kernel_rfl
theorem BYB (c : Cht) (h1 : c.ms.length < 4611686018427387904 /\ c.ns.length < 4611686018427387904) (h0 : AI c = 0) (hn : c.ns.length = 0) : BEA c := by
 have hl := OR h0
 have hs := eT h0
 rw [BMX]; delta wQ lN AHI AFD AHN AGV AAT yH kF ACP mV S3 Q7 L8 D0 P6 J0 I1 S8 C0 Cs Ly nW A3 H4 B9 O4 D5 Nc M2 P5 T7 I4 bS O1 pM bU C3 cP bF A1 bX To nU O6 T6 bV A2 K7 T9 E4 N0 H7 aY pQ qF F7 Tg K6 oY zV G2 oU S1 zX nV Lz bP pS D8 I8 pR O7 J5 zZ C6 oO H8 nP G7 nK A6 C5 cG oF oV Mx M1 M9 F8 K8 K0 bH bW Ti nD nO G9 B5 T2 vG sI sQ vA uC vR tG tY vE sD rM gJ gG vO sE rX vS tE rN vW Wd Wa; simp only [CC, eq_self, implies_true, forall_const, CL, rZ, Ws, AKB, wN]
 have hq : (TT c).q = [] := by unfold TT; rw [hn]; rfl
 have hr : (TT c).r = [] := by unfold TT; rw [hn]; rfl
 refine ⟨⟨h1, h0⟩, ⟨default, hn⟩, λ _ => ⟨λ h => by omega, λ _ => ⟨⟨default, hn⟩, λ _ => ⟨⟨λ n => rfl, by decide, hl.2.1.2⟩, ⟨hl.2.1.1, hl.2.1.2, hs.1⟩, λ hc => ?_, λ hc => ?_⟩⟩⟩⟩
 ·have hc : (IL (stD ⟨AY c, []⟩)).2 = false := hc
  have hc : (IL (fwW c)).2 = false := by unfold fwW; rw [hq]; exact hc
  unfold dS; rw [hc]; exact ⟨rfl, rfl, rfl, rfl, rfl⟩
 ·have hc : (IL (stD ⟨AY c, []⟩)).2 = true := hc
  have hc : (IL (fwW c)).2 = true := by unfold fwW; rw [hq]; exact hc
  unfold dS; rw [hc]
  exact ⟨by show (TT c).q.length = 0; rw [hq]; rfl, by show (TT c).q.length = 0; rw [hq]; rfl, by show (TT c).r.length = 0; rw [hr]; rfl, by show (TT c).r.length = 0; rw [hr]; rfl, rfl⟩
theorem BFV : AK Try.prog ACI (C_few.spec aM) := okT C_few (λ (c : Cht) h => by
 have h1 : c.ms.length < 4611686018427387904 /\ c.ns.length < 4611686018427387904 := h
 by_cases h0 : AI c = 0
 ·have e : C_few.val c = .tup [.d (PH (dS c).q), .d (Kw (dS c).r), .int (dS c).e] := by
   show AVal.tup [.d (PH (ZU c).q), .d (Kw (ZU c).r), .int (ZU c).e] = _
   unfold ZU; rw [h0]; rfl
  rw [e]
  rcases Nat.eq_zero_or_pos c.ns.length with hz | hp
  ·exact Pn (A := BIJ c) (L := []) (keep := []) (ren := []) (fz := []) A0 (by kernel_rfl) (AA pG (AA BGX (AA AMH (AA zG AC)))) (BYB c h1 h0 hz)
  ·exact Pn (A := BQG c) (L := []) (keep := []) (ren := []) (fz := []) A0 (by kernel_rfl) (AA pG (AA BUT (AA ALJ (AA AMH (AA zG AC))))) (CCD c h1 h0 ⟨hp, (MA.1 h0).n⟩)
 ·have h0' : (AI c == 0) = false := by simpa using h0
  have e : C_few.val c = .tup [.d (PH nilI), .d (Kw nilP), .int (AI c)] := by
   show AVal.tup [.d (PH (ZU c).q), .d (Kw (ZU c).r), .int (ZU c).e] = _
   unfold ZU; rw [h0']; rfl
  rw [e]
  refine Pn (A := BHI) (L := []) (keep := []) (ren := []) (fz := []) A0 (by kernel_rfl) (AA jS AC) ?_
  show BJI c; rw [BOG]<;> delta BI BF EN EB EA BY AF CN CO AS EC ET GW FK HV IB HK GV FU HC DV FW EY LD SI KG Lc AD CI AU FT GN AG GK AZ AX AE FA BM Wr AJC ACV AW JP BL BD AO AR DD BA BK II JQ BO BJ CX BW BV AJ AQ JD AV EH NH CK AN AL JE JO FO MR AM IV FD ES CG IW JA EZ EV EQ CU FH EW AT DU HR FZ GI BN GA GC HD IS BP BH BG LM HB IN SQ PY MH PV RP Cc XN Ft YW UV XV SA Hb; simp only [CC, eq_self, implies_true, forall_const, CL]
  simp [h1, h0, nilI, nilP]) _
def C_Stops : Ctr := { α := Cht, xs := λ c => [.d (Ak c)], val := λ c => .tup [.d (PH (ZU c).q), .int (ZU c).e], keep := λ _ => [], pre := λ c => [c.ms.length < 4611686018427387904 /\ c.ns.length < 4611686018427387904] }
def AAH : Ann := ann 15 [(ACI, C_few.spec aM)]
def AYM (c : Cht) : Prop := CF Try.prog AAH APP (AH APP) [.d (Ak c)] (AB []) (C_Stops.val c) [] [] []
abbrev cX:=ZU
abbrev gC a:=cX (CU a)
attribute [go_sem] cX gC
theorem BHW (c : Cht) : (AYM c) = (SA c c (RP c) (PV c) (HU (DY (bO (cX c)) (bO (gC c))) (λ i=>GF i (bO (cX c)) (bO (gC c))) (AS (Xy (cX c)) (Xy (gC c))))) := by kernel_rfl
theorem AQL : AK Try.prog AAL (C_Stops.spec aM) := VV C_Stops (λ _ => AAH) [] [] BDT (λ _ => by kernel_rfl) (λ _ => AA BFV AC) (λ (c : Cht) h => by
 show AYM c; rw [BHW]<;> delta BI BF EN EB EA BY AF CN CO AS ET GW FK HV IB HK GV FU HC DV FW EY LD CJ DN bO Xy cX AD CI AU FT GN AG GK AZ AX AE FA AW JP BL BD AO AR DD BA BK II JQ BO BJ CX BW BV AJ AQ JD AV EH NH CK AN AL JE JO FO MR AM IV FD ES CG IW JA PM EZ EV EQ CU FH EW DU LL HR FZ GI BN GA GC HD QR QP DY IS MW BP SK GF BH BG LM HB IN PV HU RP Cc Ft YW XV SA gC; simp only [CC, eq_self, implies_true, forall_const, CL]; exact h) (λ _ => WY rfl rfl) _
def C_Pairs : Ctr := { α := Cht, xs := λ c => [.d (Ak c)], val := λ c => .tup [.d (Kw (ZU c).r), .int (ZU c).e], keep := λ _ => [], pre := λ c => [c.ms.length < 4611686018427387904 /\ c.ns.length < 4611686018427387904] }
def AZA (c : Cht) : Prop := CF Try.prog AAH AOG (AH AOG) [.d (Ak c)] (AB []) (C_Pairs.val c) [] [] []
theorem BHV (c : Cht) : (AZA c) = (SA c c (RP c) (PV c) (HU (Ni (Yl (cX c)) (Yl (gC c))) (λ i=>QX i (IE (Yl (cX c))) (Yl (cX c)) (Yl (gC c)) i i) (AS (Xy (cX c)) (Xy (gC c))))) := by kernel_rfl
theorem AQP : AK Try.prog AAM (C_Pairs.spec aM) := VV C_Pairs (λ _ => AAH) [] [] BFW (λ _ => by kernel_rfl) (λ _ => AA BFV AC) (λ (c : Cht) h => by
 show AZA c; rw [BHV]<;> delta BI BF EN EB EA BY AF CN CO AS ET GW FK HV IB HK GV FU HC DV FW EY LD QW QS IE Xg Yl Xy cX AD CI AU FT GN AG GK AZ AX AE FA AW JP BL BD AO AR DD BA BK II JQ BO BJ CX BW BV AJ AQ JD AV EH NH CK AN AL JE JO FO MR AM IV FD ES CG IW JA EZ EV EQ CU FH EW DU HR FZ GI BN GA GC HD Lf VP IS BP BH BG LM HB IN RQ Ao PV HU Qs QX RP Cc Ft YW Ni XV SA gC; simp only [CC, eq_self, implies_true, forall_const, CL]; exact h) (λ _ => WY rfl rfl) _
end Go.Bal
