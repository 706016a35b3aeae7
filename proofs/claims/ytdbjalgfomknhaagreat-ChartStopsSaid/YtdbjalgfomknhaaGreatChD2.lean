/- Package chart: times are narrowed. -/
import Derived.Test.YtdbjalgfomknhaaGreatChD1
set_option linter.unusedVariables false
set_option linter.unusedSimpArgs false
namespace Go.Bal
open Go Go.Sym Go.Proofs
def C_gaps : Ctr := { ro := [100, 101], α := Dk, xs := λ _ => [.bptr 100 0], L := λ w => dkL w, val := λ _ => .fn (.func mW) [] [.bptr 0 0], keep := λ w => dkK w ++ [(0, .live (.box [.bptr 100 0]))] }
def BDF : Ann := { ann 4 [] with E := [100, 101] }
def BCW (w : Dk) : Prop := CF Try.prog BDF ATM (AH ATM) (C_gaps.xs w) (AB (C_gaps.L w)) (C_gaps.val w) (C_gaps.keep w) [(0, 1000)] []
theorem BNE (w : Dk) : (BCW w) = (And (QG w) (AG (QL w) (SS w) (TO w) (TR w) (Qz w w))) := by kernel_rfl
theorem BAD : AK Try.prog AOM (C_gaps.spec T1) := VV C_gaps (λ _ => BDF) [(0, 1000)] [] BMT (λ _ => by kernel_rfl) (λ _ => AC) (λ (w : Dk) _ => by
 show BCW w; rw [BNE]<;> delta JH BI BF EN EB EA BY AF CN CO AS ET GW FK HV IB HK GV FU HC DV FW EY QU EK OK AP LI AD CI AU AG AZ AX AE BM GQ AW BL BD AO AR DD BA BK NC CX BW BV AJ AQ NU AV FC CK AN AL LH HG FX FQ AM HE ID DR OX PI HS DX CW BQ XE WP PX HQ Fa GT NB EO VM IY MP PO EI OE PR QL TA QG SS LR TO TR Qz; simp) (λ _ => WY rfl rfl) _
def farM (c : Cht) (g : Nat) : Int := wr ((gD c.ms (g + 1)).pl - (gD c.ms g).pl)
def TM (w : Dk) (g : Nat) : Span := ⟨wr (w.c.p.lo * farM w.c g), bif w.sp g then 200000000 else wr (w.c.p.hi * farM w.c g)⟩
def gapL (w : Dk) : List Span := ME (w.c.ms.length - 1) λ g => TM w g
structure LIS where
 l : List Span
 k : Int
 s : Span
def upd1 (l : List Span) (k : Int) (s : Span) (i : Nat) : Span := bif decide (i = k.toNat) then iV (gD l k.toNat) s else gD l i
def lkR (n : Nat) (f : Nat -> Span) : List (Nat × HCell) := [(100, .live (.box [.own 101 2 0 n])), (101, .live (.row 2 n λ i => IK (f i)))]
def C_nar1 : Ctr := { ro := [100], α := LIS, xs := λ a => [.int a.k, .d (IK a.s), .bptr 100 0], L := λ a => [(100, .box [.own 101 2 0 a.l.length]), (101, rowS a.l)], val := λ _ => .d (.tup []), keep := λ a => lkR a.l.length (upd1 a.l a.k a.s), pre := λ a => [0 <= a.k /\ a.k < a.l.length] }
def BDZ : List AVal -> Heap -> Option (LIS × List (Nat × Nat) × List Nat)
 | [.d k, .d s, .bptr id _], H => match H id with
  | .live (.box [.own j _ _ _]) => match H j with
   | .live (.row _ n g) => some (⟨ME n λ i => La (g i), HJ k, La s⟩, [(100, id), (101, j)], [])
   | _ => none
  | _ => none
 | _, _ => none
def BDE : Ann := { ann 15 [(yS, C_com.spec BJF)] with E := [100, 101] }
def BJW (a : LIS) : Prop := CF Try.prog BDE AUZ (AH AUZ) (C_nar1.xs a) (AB (C_nar1.L a)) (C_nar1.val a) (C_nar1.keep a) [] []
abbrev Ye:=LIS.k
abbrev Sj:=LIS.l
abbrev yL:=LIS.s
attribute [go_sem] Ye Sj yL
theorem BMW (a : LIS) : (BJW a) = (Mv (KQ (Ye a) (EL (Sj a)) (EX (CO (LA (Ye a)) (EL (Sj a))) (On (Sj a) (LA (Ye a))) (AV (KA (Sj a) (LA (Ye a)))) (OW (Eo (yL a)) 1) RD (λ i=>NQ i (Eo (yL a)) i (yL a)) KS (HF (Ye a) (EL (Sj a))) (QI (Ye a) (EL (Sj a))))) (NO (Sj a)) (λ i=>OJ i (Sj a) (BO (upd1 (Sj a) (Ye a) (yL a) i) (RS i (Ye a) (BI (comM (SL.mk (KA (Sj a) (LA (Ye a))) (Eo (yL a))))) (ZC (Sj a) i))) (AZ (upd1 (Sj a) (Ye a) (yL a) i) (RS i (Ye a) (BF (comM (SL.mk (KA (Sj a) (LA (Ye a))) (Eo (yL a))))) (Ac (Sj a) i))))) := by kernel_rfl
theorem BQC : AK Try.prog O9 (C_nar1.spec BDZ) := VV C_nar1 (λ _ => BDE) [] [] BNZ (λ _ => by kernel_rfl) (λ _ => AA BIO AC) (λ (a : LIS) h => by
 show BJW a; rw [BMW]<;> delta JH BI BF BY EL AF CN CO AS KA BE EU FY MN Oo LC EP RX GZ Ai cQ Ye Sj yL AD AG AZ AX AE BM GQ Wq Sb AW BL AR BA BO BJ AV DK CM BX BC LA OJ AT PF NO SX EX RV SY OW On HF MX JX RD KS QI KQ RS Eo NQ Ac ZC kU Mv; simp only [CC, eq_self, implies_true, forall_const]
 have h : 0 <= a.k /\ a.k < a.l.length := h
 have e : comM ⟨gD a.l a.k.toNat, ME 1 λ _ => a.s⟩ = iV (gD a.l a.k.toNat) a.s := rfl
 refine ⟨⟨h, by omega, by omega, λ j hj => by rw [KL _ _ _ hj]; exact ⟨rfl, rfl⟩, h, by omega⟩, λ i hi => ?_⟩
 rw [e]; unfold upd1
 cases decide (i = a.k.toNat) <;> exact ⟨rfl, rfl⟩) (λ _ => WY rfl rfl) _
def addS (a s : Span) : Span := ⟨wr (a.lo + s.lo), wr (a.hi + s.hi)⟩
def subS (a s : Span) : Span := ⟨wr (a.lo - s.hi), wr (a.hi - s.lo)⟩
def fwM (l : List Span) (s : Nat -> Span) : Nat -> Span
 | 0 => gD l 0
 | g + 1 => iV (gD l (g + 1)) (addS (fwM l s g) (s g))
def bkM (f s : Nat -> Span) (n : Nat) : Nat -> Span
 | 0 => f n
 | j + 1 => iV (f (n - (j + 1))) (subS (bkM f s n j) (s (n - (j + 1))))
def Fg (w : Dk) (l : List Span) : List Span := ME l.length λ i => bkM (fwM l (TM w)) (TM w) (l.length - 1) (l.length - 1 - i)
structure DkS where
 w : Dk
 l : List Span
def dDkS : List AVal -> Heap -> Option (DkS × List (Nat × Nat) × List Nat)
 | [.bptr id _, y], H => match rH H id, Xo y H with
  | some (w, q), some (l, f) => some (⟨w, l⟩, [(100, id), (101, q)], f)
  | _, _ => none
 | _, _ => none
def C_nar : Ctr := { ro := [100, 101], α := DkS, xs := λ a => [.bptr 100 0, .d (DC a.l)], L := λ a => dkL a.w, val := λ a => .tup [.d (DC (Fg a.w a.l)), .bool ((Fg a.w a.l).all He)], keep := λ a => dkK a.w, pre := λ a => [a.l.length = a.w.c.ms.length /\ 1 <= a.w.c.ms.length /\ a.w.c.ms.length <= 40] }
def nrH (a : DkS) (f : Nat -> Span) (p : AVal) : List (Nat × HCell) := dkK a.w ++ [(2016, .live (.row 2 a.l.length λ i => IK (f i))), (2032, .live (.box [.own 2016 2 0 a.l.length])), (3000, .live (.box [p]))]
def gpS (a : DkS) (l k : Nat) : List (Nat × AVal) := [(0, .fn (.yield l) [] []), (1, .bptr 4016 0), (12, .int (wr ((a.w.c.ms.length : Int) - 1))), (13, .int k)]
def gpB : Nat × HCell := (4016, .live (.box [.bptr 100 0]))
def gp1n (a : DkS) (l : Nat) : Shape := { α := One, dflt := default, T := λ _ => ⟨gpS a l 0, nrH a (gD a.l) (.d Ou) ++ [gpB]⟩, inv := λ _ => True, meas := λ _ => 60 }
def gp1o (a : DkS) (l : Nat) : Shape := { α := Nat, dflt := 0, T := λ k => ⟨gpS a l k, nrH a (gD a.l) (.own 302 2 0 k) ++ [gpB, (302, .live (.row 2 k λ i => IK (TM a.w i)))]⟩, inv := λ k => 1 <= k /\ k <= a.w.c.ms.length - 1, meas := λ k => 50 - k, again := [(302, 6048)] }
noncomputable def BRM (a : DkS) : IterAnn := { fn := zB, code := AH zB, live := [6, 7], ann := { base := λ id => 100000 + 1000 * (id + 1), Γ := Sym.look [], E := [100, 101, 2016, 2032, 3000, 4016], n := 66, inner := λ gs id => if id = 1 then some [gp1n a (gs.getD 0 0), gp1o a (gs.getD 0 0)] else none } }
def nr6T (a : DkS) : One -> ST := λ _ => ⟨[(6, .bptr 2032 0), (7, .bptr 3000 0)], nrH a (gD a.l) (.d (DC (gapL a.w)))⟩
def nr6 (a : DkS) (z : List Nat) : Shape := { α := One, dflt := default, T := nr6T a, inv := λ _ => True, meas := λ _ => 0, ffz := z }
def nr7 (a : DkS) : Shape := { α := One, dflt := default, T := λ _ => ⟨[(6, .bptr 2032 0), (7, .bptr 3000 0), (10, .fn (.func O9) [] [.bptr 2032 0])], nrH a (gD a.l) (.d (DC (gapL a.w)))⟩, inv := λ _ => True, meas := λ _ => 0 }
def nrF (a : DkS) (k i : Nat) : Span := bif decide (i <= k) then fwM a.l (TM a.w) i else gD a.l i
def nrB (a : DkS) (j i : Nat) : Span := bif decide (a.w.c.ms.length - 1 - j <= i) then bkM (fwM a.l (TM a.w)) (TM a.w) (a.w.c.ms.length - 1) (a.w.c.ms.length - 1 - i) else fwM a.l (TM a.w) i
def nr8 (a : DkS) : Shape := { α := Nat, dflt := 0, T := λ k => ⟨[(6, .bptr 2032 0), (7, .bptr 3000 0), (10, .fn (.func O9) [] [.bptr 2032 0]), (25, .d (DC (gapL a.w))), (26, .int (gapL a.w).length), (27, .int k)], nrH a (nrF a k) (.d (DC (gapL a.w)))⟩, inv := λ k => k <= a.w.c.ms.length - 1, meas := λ k => 50 - k }
def nr13 (a : DkS) : Shape := { α := Nat, dflt := 0, T := λ j => ⟨[(6, .bptr 2032 0), (7, .bptr 3000 0), (10, .fn (.func O9) [] [.bptr 2032 0]), (13, .int ((a.w.c.ms.length : Int) - 2 - j))], nrH a (nrB a j) (.d (DC (gapL a.w)))⟩, inv := λ j => j <= a.w.c.ms.length - 1, meas := λ j => 50 - j }
noncomputable def BRT (a : DkS) : Ann := { ann 92 [(yO, C_clo.spec dSs1), (AOM, C_gaps.spec T1), (O9, C_nar1.spec BDZ), (n_eS, C4SnO.spec BSA)] with E := [100, 101], mt := λ id => id == 5, iter := λ g => if g = mW then some (BRM a) else none, loops := λ id => if id = 8 then some [nr8 a] else if id = 13 then some [nr13 a] else none, cut := λ id => if id = 6 then some [nr6 a [], nr6 a [302]] else if id = 7 then some [nr7 a] else none }
def BSK (a : DkS) : Prop := CF Try.prog (BRT a) tX (AH tX) (C_nar.xs a) (AB (C_nar.L a)) (C_nar.val a) (C_nar.keep a) [] [2016]
abbrev MS:=DkS.l
abbrev Ib:=DkS.w
abbrev Ya:=Fg
abbrev V2 a b:=AD a b b
abbrev Lo a b:=Yb (λ i=>CN a b)
abbrev XL a:=Lo FL a
abbrev JW a:=AP (Ib a)
abbrev De a:=AQ (JW a)
abbrev Eb a:=AN (JW a)
abbrev Do a:=AM (JW a)
abbrev Rj a:=AL (JW a)
abbrev Bg a:=AJ (JW a)
abbrev fY a (b:Nat->Span):=Xx (MS a) b
abbrev Ic a b c:=fY a (λ i=>nrB b c i)
abbrev Ub a:=EL (MS a)
abbrev Fi a:=LS a 1
abbrev mU a:=Fi (AU a)
abbrev Li a:=mU (JW a)
abbrev Cv a:=gapL (Ib a)
abbrev dH a:=LW (Cv a)
abbrev dY a:=NO (Cv a)
abbrev TN a:=NO (MS a)
abbrev AHM a b:=Ep a (BE b)
abbrev ASA a b:=Ep (KF a) b
abbrev ASL a b c:=AHM (ASA a b) c
abbrev As a b:=ASL (JW a) 2 b
abbrev hU a b:=DO (As a b)
abbrev Qf a:=mD (JW a)
abbrev Ea a:=GT (Ib a)
abbrev Jx a:=jD (JW a)
abbrev Qb a:=DI (JW a)
abbrev Kd a:=DR (JW a)
abbrev eS a:=QJ (JW a)
abbrev Jp a:=DX (JW a)
abbrev lX a:=FK (JW a)
abbrev Dt a b:=AS a (LZ b)
abbrev Gr a b:=TM (Ib a) b
abbrev Zp a:=IY (Ib a)
abbrev Kf a b c:=iJ a (GO b c)
abbrev Js a b:=BV (JW a) b
abbrev XD a:=EP (DZ a)
abbrev Ng a:=BI (FK a)
abbrev gF a:=wr (ASA (JW a) 1)
abbrev Nl a:=(@Eq Fn) (Fn.yield a) (Fn.yield a)
abbrev ZK a b c d:=RI a Np b c d
abbrev Ei a b c d:=SP a b c (DK d b)
abbrev Yd a b c d:=AG a b c b d
abbrev MJ a:=CO a 1073741824
attribute [go_sem] MS Ib Ya V2 Lo XL JW De Eb Do Rj Bg fY Ic Ub Fi mU Li Cv dH dY TN AHM ASA ASL As hU Qf Ea Jx Qb Kd eS Jp lX Dt Gr Zp Kf Js XD Ng gF Nl ZK Ei Yd MJ
theorem BVI (a : DkS) : (BSK a) = (GP (Bz (MS a) (Ub a)) (AF (λ i=>PG i (MS a) i)) (OQ (KZ (MS a))) (MJ (KZ (MS a))) (V2 (GP (Bg a) (Rj a) (Do a) (CG (Eb a) (De a) (BP (JW a)) (HM (JW a)) (BN (JW a)) (FN (JW a)) (λ i=>NB i (Ib a)) BQ (Po (NJ (JW a)) (Ea a) (FM (JW a)) (Bg a) (JW a) (PO (FI (JW a)) (λ i=>GD i (JW a)) (FJ (JW a)) (λ i=>CQ i (JW a)) (Zp a) BQ (λ i=>XZ (JW a) i) (Ea a) (λ i=>LN (JW a) i)))) (AF (λ i=>ZB (IN (Nl i) (Dt (gF a) (KF (JW a))) (AR DJ (Bg a) (Rj a) (Do a) (Eb a) (De a) (Jp a) (eS a) (JY (Kd a) (λ j=>EI j (JW a)) (Zp a) (Jx a) (Ea a) (λ j=>OE (JW a) j) (OW (MS a) (KZ (MS a))) (Yd (AF (λ j=>NQ j (MS a) j (Jv (MS a) j))) AT (OW (MS a) (KZ (MS a))) FG))) FL) (JF FL 0 (gF a) (Ei (DZ 0) (AU (JW a)) (JM 0) (BE 0)) (TH 0 0 40 (JX 0 40) (EC (LI (Ib a) 0) (AD (BM i) (ZK WM VL VB 16) (HA (λ j=>AD (AG (Nl i) (AE (gF a)) (BR j 0) (Bg a) (EX (Rj a) (Do a) (Eb a) (De a) (Jp a) (λ k=>EO k (JW a)) (Kd a) (Qb a) (CG (Zp a) BQ (Jx a) (Ea a) (Qf a) (TN a) (λ k=>XY k (MS a)) AT (Mv (TN a) (MI j) (λ k=>BA k j (BO (Gr a k) (Kf (Ng (JW a)) (Js a (XD 0)) (Js a 0))) (AZ (Gr a k) 200000000)))))) (KR j (Li a)) (JB 50 j 60)))) (AD (BM i) (ZK WM VL VB 16) (HA (λ j=>AD (AG (Nl i) (AE (gF a)) (BR j 0) (Bg a) (EX (Rj a) (Do a) (Eb a) (De a) (Jp a) (λ k=>EO k (JW a)) (Kd a) (Qb a) (CG (Zp a) BQ (Jx a) (Ea a) (Qf a) (TN a) (λ k=>XY k (MS a)) AT (Mv (TN a) (MI j) (λ k=>BA k j (BO (Gr a k) (Kf (Ng (JW a)) (Js a (XD 0)) (Js a 0))) (AZ (Gr a k) (Kf (BF (lX a)) (Js a (XD 0)) (Js a 0)))))))) (KR j (Li a)) (JB 50 j 60)))))) (TE (λ j=>BC (Bg a) (DT (Rj a) (Do a) (Eb a) (De a) (Jp a) (eS a) (JY (Kd a) (λ k=>EI k (JW a)) (Zp a) (Jx a) (Ea a) (λ k=>OE (JW a) k) (TN a) (qS (LW (MS a)) AT (TN a) (Mr (Cv a))))) FL))) (λ j=>JF (KR j (Li a)) j (gF a) (Ei (DZ j) (AU (JW a)) (JM j) (BE j)) (TH j j 40 (JX j 40) (EC (LI (Ib a) j) (AD (BM i) (ZK (Dj j j) UP (VA j) (Dh j)) (HA (λ k=>DW (AG (Nl i) (AE (gF a)) (BR k j) (Bg a) (EX (Rj a) (Do a) (Eb a) (De a) (Jp a) (λ l=>EO l (JW a)) (Kd a) (Qb a) (CG (Zp a) BQ (Jx a) (Ea a) (Qf a) (TN a) (λ l=>XY l (MS a)) AT (Mv (TN a) (SJ k j) (λ l=>BA l k (BO (Gr a l) (KX l j (BI (Gr a l)) (Kf (Ng (JW a)) (Js a (XD j)) (Js a j)))) (AZ (Gr a l) (KX l j (BF (Gr a l)) 200000000))))))) (KR k (Li a)) 50 k j))) (AD (BM i) (ZK (Dj j j) UP (VA j) (Dh j)) (HA (λ k=>DW (AG (Nl i) (AE (gF a)) (BR k j) (Bg a) (EX (Rj a) (Do a) (Eb a) (De a) (Jp a) (λ l=>EO l (JW a)) (Kd a) (Qb a) (CG (Zp a) BQ (Jx a) (Ea a) (Qf a) (TN a) (λ l=>XY l (MS a)) AT (Mv (TN a) (SJ k j) (λ l=>BA l k (BO (Gr a l) (KX l j (BI (Gr a l)) (Kf (Ng (JW a)) (Js a (XD j)) (Js a j)))) (AZ (Gr a l) (KX l j (BF (Gr a l)) (Kf (BF (lX a)) (Js a (XD j)) (Js a j))))))))) (KR k (Li a)) 50 k j))))) (TE (λ k=>EG (Bg a) (Rj a) (Do a) (Eb a) (GU (De a) (Jp a) (λ l=>EO l (JW a)) (Kd a) (Qb a) (Zp a) BQ (Jx a) (AR (Ea a) (Qf a) (TN a) (LW (MS a)) AT (TN a) (OW (Cv a) j) (OF j) (AF (λ l=>NQ l (Cv a) l (Gr a (CM l)))))) FL)))))) (XL (And (TE (λ i=>GP (Bg a) (Rj a) (Do a) (CG (Eb a) (De a) (Jp a) (eS a) (Kd a) (Qb a) (λ j=>NB j (Ib a)) BQ (AR (Jx a) (Ea a) (Qf a) (TN a) (LW (MS a)) AT (TN a) (dY a) (dH a))) FL)) (XL (FV (λ i=>GP (dY a) (dH a) (Nx (Cv a)) (FC (BZ i) (Bg a) (lX a) (Do a) (CG (Eb a) (De a) (Jp a) (eS a) (Kd a) (Qb a) (λ j=>NB j (Ib a)) BQ (AR (Jx a) (Ea a) (Qf a) (TN a) (AF (λ j=>PL j (MS a) (nrF a i j) (MS a))) AT (TN a) (dY a) (dH a)))) (GZ i (Li a))) (λ i=>NR (GZ i (Li a)) i (ZS (Cv a)) (TH i i (EL (Cv a)) (TH i i (Ub a) (CO (CM i) (Ub a)) (AG (HF (BE i) (Ub a)) (CO (CM i) (Ub a)) (AE (DZ i)) (AE (GH (BI (nrF a i (CM i))) (ZC (Cv a) i))) (kU (AE (GH (BF (nrF a i (CM i))) (Ac (Cv a) i))) (KU (fY a (λ j=>nrF a i j)) (MS a)) (AG (AF (λ j=>NQ j (fY a (λ k=>nrF a i k)) j (nrF a i j))) AT (KU (MS a) (fY a (λ j=>nrF a i j))) (BX (DZ i)) (DK (DZ i) (EL (fY a (λ j=>nrF a i j)))))))) (HA (λ j=>GM (dY a) (AD (dH a) (Nx (Cv a)) (FC (BR j i) (Bg a) (lX a) (Do a) (CG (Eb a) (De a) (Jp a) (eS a) (Kd a) (Qb a) (λ k=>NB k (Ib a)) BQ (AR (Jx a) (Ea a) (Qf a) (KU (MS a) (fY a (λ k=>nrF a i k))) (AF (λ k=>MX k (MS a) (nrF a j k) (upd1 (fY a (λ l=>nrF a i l)) (DZ i) (Vw (GH (BI (nrF a i (CM i))) (ZC (Cv a) i)) (GH (BF (nrF a i (CM i))) (Ac (Cv a) i))) k))) AT (TN a) (dY a) (dH a))))) (GZ j (Li a)) 50 j i))) (FV (λ j=>And (FC (Dt (As a j) (ZS (Cv a))) (Bg a) (lX a) (Do a) (CG (Eb a) (De a) (Jp a) (eS a) (Kd a) (Qb a) (λ k=>NB k (Ib a)) BQ (AR (Jx a) (Ea a) (Qf a) (TN a) (AF (λ k=>MX k (MS a) (nrB a j k) (nrF a i k))) AT (TN a) (dY a) (dH a)))) (GZ j (Li a))) (λ j=>CN (GZ j (Li a)) (ED (Es (As a j)) (Wr (HF (hU a j) (Ub a)) (CO (LA (hU a j)) (Ub a)) (HF (As a j) (EL (Cv a))) (AG (CO (LA (hU a j)) (Ub a)) (HF (As a j) (EL (Cv a))) (AE (As a j)) (AE (GO (BI (nrB a j (LA (hU a j)))) (Ac (Cv a) (EP (As a j))))) (kU (AE (GO (BF (nrB a j (LA (hU a j)))) (ZC (Cv a) (EP (As a j))))) (KU (Ic a a j) (MS a)) (AG (AF (λ k=>NQ k (Ic a a j) k (nrB a j k))) AT (KU (MS a) (Ic a a j)) (BX (As a j)) (DK (As a j) (EL (Ic a a j))))))) (HA (λ k=>DW (FC (Dt (As a k) (As a j)) (Bg a) (lX a) (Do a) (CG (Eb a) (De a) (Jp a) (eS a) (Kd a) (Qb a) (λ l=>NB l (Ib a)) BQ (AR (Jx a) (Ea a) (Qf a) (KU (MS a) (Ic a a j)) (AF (λ l=>MX l (MS a) (nrB a k l) (upd1 (Ic a a j) (As a j) (Vw (GO (BI (nrB a j (LA (hU a j)))) (Ac (Cv a) (EP (As a j)))) (GO (BF (nrB a j (LA (hU a j)))) (ZC (Cv a) (EP (As a j))))) l))) AT (TN a) (dY a) (dH a)))) (GZ k (Li a)) 50 k j)) (ZH (YO (KU (Ic a a j) (MS a)) (AG (AF (λ k=>NQ k (Ic a a j) k (nrB a j k))) (KU (MS a) (Ic a a j)) (AF (λ k=>PL k (MS a) (nrB a j k) (Ic a a j))) (EQ (EL (Ic a a j))) FL)) (KU (Ya (Ib a) (MS a)) (MS a)) (CW (OF (Ub a)) (λ k=>NQ k (Ya (Ib a) (MS a)) k (nrB a j (CM k))) (JH (kT (Ya (Ib a) (MS a)) He) (kT (Ic a a j) He)) (Bg a) (Rj a) (Do a) (Eb a) (De a) (LR (JW a) (Ib a)))))))))))))) := by kernel_rfl
theorem AXT {L : Nat} {f : Nat -> Span} {k : Int} {s : Span} {i : Nat} (hi : i < L) (hk : k.toNat < L) : upd1 (ME L f) k s i = bif decide (i = k.toNat) then iV (f k.toNat) s else f i := by
 unfold upd1; rw [KL _ _ _ hi, KL _ _ _ hk]
theorem BKT (a : DkS) {k i : Nat} (hk : k + 1 < a.l.length) (hi : i < a.l.length) : nrF a (k + 1) i = upd1 (ME a.l.length λ i => nrF a k i) ((k + 1 : Nat) : Int) (addS (nrF a k k) (TM a.w k)) i := by
 rw [AXT hi (by show k + 1 < _; exact hk)]
 show _ = bif decide (i = k + 1) then iV (nrF a k (k + 1)) _ else _
 by_cases h : i = k + 1
 ·subst h
  simp only [nrF, Nat.le_refl, decide_true, cond_true, show ¬ k + 1 <= k by omega, decide_false, cond_false]
  rfl
 ·have e : decide (i <= k + 1) = decide (i <= k) := by rw [decide_eq_decide]; omega
  simp only [nrF, h, e, decide_false, cond_false]
theorem BHH (a : DkS) {j i : Nat} (hl : a.l.length = a.w.c.ms.length) (hj : j + 2 <= a.l.length) (hi : i < a.l.length) : nrB a (j + 1) i = upd1 (ME a.l.length λ i => nrB a j i) ((a.w.c.ms.length - 2 - j : Nat) : Int) (subS (nrB a j (a.w.c.ms.length - 2 - j + 1)) (TM a.w (a.w.c.ms.length - 2 - j))) i := by
 rw [AXT hi (by show a.w.c.ms.length - 2 - j < _; omega)]
 show _ = bif decide (i = a.w.c.ms.length - 2 - j) then iV (nrB a j (a.w.c.ms.length - 2 - j)) _ else _
 by_cases h : i = a.w.c.ms.length - 2 - j
 ·have e1 : decide (a.w.c.ms.length - 1 - (j + 1) <= i) = true := by rw [decide_eq_true_eq]; omega
  have e2 : decide (a.w.c.ms.length - 1 - j <= a.w.c.ms.length - 2 - j) = false := by rw [decide_eq_false_iff_not]; omega
  have e3 : decide (a.w.c.ms.length - 1 - j <= a.w.c.ms.length - 2 - j + 1) = true := by rw [decide_eq_true_eq]; omega
  have e4 : a.w.c.ms.length - 1 - i = j + 1 := by omega
  have e5 : a.w.c.ms.length - 1 - (a.w.c.ms.length - 2 - j + 1) = j := by omega
  have e6 : a.w.c.ms.length - 1 - (j + 1) = a.w.c.ms.length - 2 - j := by omega
  have e7 : decide (i = a.w.c.ms.length - 2 - j) = true := by rw [decide_eq_true_eq]; exact h
  have e8 : decide (a.w.c.ms.length - 2 - j <= i) = true := by rw [decide_eq_true_eq]; omega
  rw [e7]
  simp only [nrB, e2, e3, e4, e5, cond_true, cond_false, bkM, e6, e8]
 ·have e1 : decide (a.w.c.ms.length - 1 - (j + 1) <= i) = decide (a.w.c.ms.length - 1 - j <= i) := by rw [decide_eq_decide]; omega
  simp only [nrB, h, e1, decide_false, cond_false]
theorem CBX (a : DkS) (h : a.l.length = a.w.c.ms.length /\ 1 <= a.w.c.ms.length /\ a.w.c.ms.length <= 40) : BSK a := by
 obtain ⟨hl, h1, h2⟩ := h
 have e1 : wr ((a.w.c.ms.length : Int) - 1) = ((a.w.c.ms.length - 1 : Nat) : Int) := by unfold wr; rw [TC (by omega) (by omega)]; omega
 have e2 : IntKind.i64.wrap ((a.w.c.ms.length : Int) - 1) = ((a.w.c.ms.length - 1 : Nat) : Int) := e1
 have gl : (gapL a.w).length = a.w.c.ms.length - 1 := rng_length _ _
 have gg : ∀ {j : Nat}, j < a.w.c.ms.length - 1 -> gD (gapL a.w) j = TM a.w j := λ hj => KL _ _ _ hj
 have lo : ∀ k, (TM a.w k).lo = IntKind.i64.wrap (a.w.c.p.lo * IntKind.i64.wrap ((gD a.w.c.ms (k + 1)).pl - (gD a.w.c.ms k).pl)) := λ _ => rfl
 have hi1 : ∀ k, a.w.sp k = true -> (TM a.w k).hi = 200000000 := λ k h => by unfold TM; rw [h]; rfl
 have hi0 : ∀ k, a.w.sp k = false -> (TM a.w k).hi = IntKind.i64.wrap (a.w.c.p.hi * IntKind.i64.wrap ((gD a.w.c.ms (k + 1)).pl - (gD a.w.c.ms k).pl)) := λ k h => by unfold TM; rw [h]; rfl
 have ws : ∀ {k : Nat}, k < 40 -> IntKind.i64.wrap ((k : Int) + 1) = ((k + 1 : Nat) : Int) := λ h => HL (by omega)
 rw [BVI]<;> delta JH jA Hi BI BF EN MM ON Ep EB EA BY EL AF CN CO AS KA BE XB EU EC JL FY MN NT LS ET GW FK HV IB HK GV FU HC DV FW EY LD HA FL Oo kT LC EP RX QU EK OK GZ Ai AP LI Bu Vw TE Yb Ho MS Ib Ya AD CI AU FT GN AG GK AZ AX AE FA V2 BM GQ Wq Sb YO Wr Yd qS AW JP BL BD AO AR DD BA BK II NC BO BJ CX JW HI BW BV AJ AQ NU JD AV EH FC CK AN AL LH GH JE JO HG FX FQ FO AM IV FD Db HE Xx DK ID DR GO CM ES BX CG DO OX BC PI IW HS DX JR HH JA CE CW EZ BQ Kq LA OJ CS XE EV WP LZ EQ PX FH Af HQ DZ KF EW AT DU JB ED Fa HO BR GT FZ GI BN NB GA GC EO HD AHM VM KZ PF LG IY FS IH ASA NO SX PQ MP Ff Bw IS ND MC UD JM NM ASL Hp Cv EX Jv PO iJ DT OW DJ YT Sf On GU QV Fi XD VQ HF BP MQ FJ FI MX EI OE BH BG IP WR PR VZ DI HZ IR mU BZ JX KT DW OQ YM YJ jD LU HY XY GG YF GM ZQ Lu ZY MJ VY EG FV FG LW XZ CQ GD NE IN UO RD WH KX KU YB KS fY KR RI TL HM PL TA XT JF GP TP TN MI FN mD SJ As SP LR ZW My OF QJ FM Bg ZD NJ Po LN Ea Do WT WB Mr Es Eb Np Gr Bz NR NQ Io Ei Ic De Ec Pw Jx Lo UP Jp Ip VB Ac VA PG Kd Js VL ZC Jb Li ZS WM Dt Ng JY XL Qf Ub Zp Qb TH Nx Nl Rj Kf Dj dH ZK ZB eS dY Dh ZH kU hU Mv lX gF; simp only [CC, eq_self, implies_true, forall_const]; simp only [e1, e2, gl, hl]
 refine ⟨by omega, ⟨⟨default, trivial⟩, ⟨λ h0 => ?_, λ h0 => ⟨default, by omega⟩⟩, λ k hk => ⟨λ hlt => ?_, λ hge => ⟨default, by omega, Nat.le_refl _, λ j hj => by rw [gg hj]; exact ⟨rfl, rfl⟩⟩⟩⟩, ⟨default, trivial⟩, ⟨0, ⟨rfl, λ i hi => ?_⟩, Nat.zero_le _⟩, λ k hk => ⟨λ hlt => ?_, λ hge => ⟨⟨0, ⟨?_, λ i hi => ?_⟩, Nat.zero_le _⟩, λ j hj => ⟨λ hlt => ?_, λ hlt => ?_⟩⟩⟩⟩
 ·simp only [ws (show (0 : Nat) < 40 by omega), Int.toNat_natCast]
  refine ⟨by omega, by omega, by omega, λ h => ⟨by simp, 1, ⟨rfl, rfl, rfl, λ i hi => ?_⟩, by omega, by omega⟩, λ h => ⟨by simp, 1, ⟨rfl, rfl, rfl, λ i hi => ?_⟩, by omega, by omega⟩⟩
  ·obtain rfl : i = 0 := by omega
   exact ⟨lo 0, hi1 0 h⟩
  ·obtain rfl : i = 0 := by omega
   exact ⟨lo 0, hi0 0 h⟩
 ·simp only [ws (show k < 40 by omega), Int.toNat_natCast]
  refine ⟨by omega, by omega, by omega, λ h => ⟨⟨by omega, (λ h => by cases h), by omega, by omega⟩, k + 1, ⟨rfl, rfl, rfl, λ i hi => ?_⟩, by omega, by omega⟩, λ h => ⟨⟨by omega, (λ h => by cases h), by omega, by omega⟩, k + 1, ⟨rfl, rfl, rfl, λ i hi => ?_⟩, by omega, by omega⟩⟩
  ·by_cases q : i < k
   ·simp only [q, decide_true, cond_true, and_self]
   ·obtain rfl : i = k := by omega
    simp only [q, decide_false, cond_false]
    exact ⟨lo i, hi1 i h⟩
  ·by_cases q : i < k
   ·simp only [q, decide_true, cond_true, and_self]
   ·obtain rfl : i = k := by omega
    simp only [q, decide_false, cond_false]
    exact ⟨lo i, hi0 i h⟩
 ·by_cases q : i = 0
  ·subst q; exact ⟨rfl, rfl⟩
  ·have : ¬ i <= 0 := by omega
   simp only [nrF, this, decide_false, cond_false, and_self]
 ·simp only [ws (show k < 40 by omega)]
  refine ⟨by omega, ⟨by omega, by omega, by omega, by omega, λ i hi => by rw [KL _ _ _ hi]; exact ⟨rfl, rfl⟩, by omega, by omega⟩, k + 1, ⟨rfl, λ i hi => ?_⟩, by omega, by omega⟩
  have e := BKT a (k := k) (i := i) (by omega) (by omega)
  rw [gg (by omega), e, hl]; exact ⟨rfl, rfl⟩
 ·rw [TC (by omega) (by omega)]; omega
 ·obtain rfl : k = a.w.c.ms.length - 1 := by omega
  have q1 : decide (i <= a.w.c.ms.length - 1) = true := by rw [decide_eq_true_eq]; omega
  unfold nrB nrF; rw [q1]
  by_cases q : a.w.c.ms.length - 1 - 0 <= i
  ·have q2 : a.w.c.ms.length - 1 - i = 0 := by omega
   have q3 : i = a.w.c.ms.length - 1 := by omega
   simp only [q, decide_true, cond_true, q2, bkM]; rw [<- q3]; exact ⟨rfl, rfl⟩
  ·simp only [q, decide_false, cond_false, cond_true, and_self]
 ·have g0 : (a.w.c.ms.length : Int) - 2 - j = ((a.w.c.ms.length - 2 - j : Nat) : Int) := by omega
  have g1 : IntKind.i64.wrap (((a.w.c.ms.length - 2 - j : Nat) : Int) + 1) = ((a.w.c.ms.length - 2 - j + 1 : Nat) : Int) := ws (by omega)
  simp only [g0, g1, Int.toNat_natCast]
  refine ⟨⟨by omega, by omega, by omega, by omega, by omega, by omega, λ i hi => by rw [KL _ _ _ hi]; exact ⟨rfl, rfl⟩, by omega, by omega⟩, j + 1, ⟨?_, λ i hi => ?_⟩, by omega, by omega⟩
  ·rw [TC (by omega) (by omega)]; omega
  ·have e := BHH a (j := j) (i := i) hl (by omega) (by omega)
   rw [gg (by omega), e, hl]; exact ⟨rfl, rfl⟩
 ·have q : j = a.w.c.ms.length - 1 := by omega
  have eq1 : ∀ i, i < a.w.c.ms.length -> gD (Fg a.w a.l) i = nrB a j i := λ i hi => by
   unfold Fg; rw [KL _ _ _ (by omega), hl]
   have q2 : decide (a.w.c.ms.length - 1 - j <= i) = true := by rw [decide_eq_true_eq]; omega
   unfold nrB; rw [q2]; rfl
  have nl : (Fg a.w a.l).length = a.w.c.ms.length := by unfold Fg; rw [rng_length, hl]
  refine ⟨⟨λ i hi => by rw [KL _ _ _ hi]; exact ⟨rfl, rfl⟩, λ i hi => by rw [KL _ _ _ hi]; exact ⟨rfl, rfl⟩, by omega⟩, nl, Nat.le_refl _, λ i hi => by rw [eq1 i (by omega)]; exact ⟨rfl, rfl⟩, ?_⟩
  congr 1
  exact BIT (by rw [nl, rng_length]) λ i hi => by rw [eq1 i (by omega), KL _ _ _ (by omega)]
theorem AVG : AK Try.prog Vv (C_nar.spec dDkS) := VV C_nar BRT [] [2016] ARH (λ _ => by kernel_rfl) (λ _ => AA BDN (AA BAD (AA BQC (AA BYM AC)))) (λ a h => CBX a h) (λ a => BQV mW (BRM a) rfl rfl AC ARE (by kernel_rfl) (by kernel_rfl)) _
end Go.Bal
