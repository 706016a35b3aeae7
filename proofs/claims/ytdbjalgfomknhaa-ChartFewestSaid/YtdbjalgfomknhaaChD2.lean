/- Package chart: times are narrowed. -/
import Derived.Test.YtdbjalgfomknhaaChD1
set_option linter.unusedVariables false
set_option linter.unusedSimpArgs false
namespace Go.Bal
open Go Go.Sym Go.Proofs
def C_gaps : Ctr := { ro := [100, 101], α := Dk, xs := λ _ => [.bptr 100 0], L := λ w => dkL w, val := λ _ => .fn (.func AES) [] [.bptr 0 0], keep := λ w => dkK w ++ [(0, .live (.box [.bptr 100 0]))] }
def BTM : Ann := { ann 4 [] with E := [100, 101] }
def BVN (w : Dk) : Prop := DN Try.prog BTM BLW (AP BLW) (C_gaps.xs w) (AH (C_gaps.L w)) (C_gaps.val w) (C_gaps.keep w) [(0, 1000)] []
theorem CCY (w : Dk) : (BVN w) = (CE (QM w) (QI w) (WS w) (WO w) (WK w) (Uw w w)) := by kernel_rfl
theorem BRH : AR Try.prog BFT (C_gaps.spec dDk1) := Jp C_gaps (λ _ => BTM) [(0, 1000)] [] CCX (λ _ => by kernel_rfl) (λ _ => AL) (λ (w : Dk) _ => by
 show BVN w; rw [CCY]<;> delta MF BU CO FM FQ FP CL AK CA DD AU IV HC HA HZ ID IA JD GN FW FY PY BI NH AQ OE KO AI BG DV AN BO BK CG BJ BB BY AO AM BL BV ED NK CS CD CJ CX DM AZ CR DH BA AW HD DQ HY DG BD FS FU IK BE OZ OO MN KP EO BC XD KU GO TL Bf LD LG VO MK OG LP EL MX NF QA CE BS QQ OH NA UR VX IF QM QI WS UK WO WK Uw; simp) (λ _ => Mi rfl rfl) _
def farM (c : Cht) (g : Nat) : Int := wr ((gD c.ms (g + 1)).pl - (gD c.ms g).pl)
def Jo (w : Dk) (g : Nat) : Span := ⟨wr (w.c.p.lo * farM w.c g), bif w.sp g then 200000000 else wr (w.c.p.hi * farM w.c g)⟩
def gapL (w : Dk) : List Span := HX (w.c.ms.length - 1) λ g => Jo w g
structure LIS where
 l : List Span
 k : Int
 s : Span
def upd1 (l : List Span) (k : Int) (s : Span) (i : Nat) : Span := bif decide (i = k.toNat) then com (gD l k.toNat) s else gD l i
def lkR (n : Nat) (f : Nat -> Span) : List (Nat × HCell) := [(100, .live (.box [.own 101 2 0 n])), (101, .live (.row 2 n λ i => JS (f i)))]
def C_nar1 : Ctr := { ro := [100], α := LIS, xs := λ a => [.int a.k, .d (JS a.s), .bptr 100 0], L := λ a => [(100, .box [.own 101 2 0 a.l.length]), (101, rowS a.l)], val := λ _ => .d (.tup []), keep := λ a => lkR a.l.length (upd1 a.l a.k a.s), pre := λ a => [0 <= a.k /\ a.k < a.l.length] }
def BWP : List AVal -> Heap -> Option (LIS × List (Nat × Nat) × List Nat)
 | [.d k, .d s, .bptr id _], H => match H id with
  | .live (.box [.own j _ _ _]) => match H j with
   | .live (.row _ n g) => some (⟨HX n λ i => Ms (g i), JQ k, Ms s⟩, [(100, id), (101, j)], [])
   | _ => none
  | _ => none
 | _, _ => none
def BYT : Ann := { ann 15 [(ANW, C_com.spec CAP)] with E := [100, 101] }
def BUH (a : LIS) : Prop := DN Try.prog BYT BLL (AP BLL) (C_nar1.xs a) (AH (C_nar1.L a)) (C_nar1.val a) (C_nar1.keep a) [] []
abbrev Wa:=LIS.l
abbrev E2:=LIS.s
abbrev kF a:=dJ (LIS.k a)
attribute [go_sem] Wa E2 kF
theorem CDN (a : LIS) : (BUH a) = (ADJ (EW (LIS.k a) (DR (Wa a)) (AO (DD (kF a) (DR (Wa a))) (By (Wa a) (kF a)) (BL (ML (Wa a) (kF a))) (JN (Js (E2 a)) 1) XG (AK (λ i=>MQ i (DR (Js (E2 a))) (Js (E2 a)) (BU (E2 a)) (E2 a))) GP (HB (LIS.k a) (DR (Wa a))) (NT (kF a) (DR (Wa a))))) AJ (MO (Wa a)) (AK (λ i=>YP i (DR (Wa a)) (BU (upd1 (Wa a) (LIS.k a) (E2 a) i)) (VD i (kF a) (BU (comM (SL.mk (ML (Wa a) (kF a)) (Js (E2 a))))) (GK (Wa a) i)) (upd1 (Wa a) (LIS.k a) (E2 a) i) (VD i (kF a) (CO (comM (SL.mk (ML (Wa a) (kF a)) (Js (E2 a))))) (US (Wa a) i))))) := by kernel_rfl
theorem CBZ : AR Try.prog ARF (C_nar1.spec BWP) := Jp C_nar1 (λ _ => BYT) [] [] CDG (λ _ => by kernel_rfl) (λ _ => AC CAU AL) (λ (a : LIS) h => by
 show BUH a; rw [CDN]<;> delta MF BU CO CL DR AK CA DD AU ML BW GM KZ KB Wy PB JW ZA MG YE Vy Wa E2 AI AN BO BK BJ AO AM BL BV ED Wi ADJ CD CJ DP AJ FR BH DI BZ LB GK dJ VD HB MO VK KD By JN EW PI XG GP MQ US NT Js YP kF; simp only [CC, eq_self, implies_true, forall_const]
 have h : 0 <= a.k /\ a.k < a.l.length := h
 have e : comM ⟨gD a.l a.k.toNat, HX 1 λ _ => a.s⟩ = com (gD a.l a.k.toNat) a.s := rfl
 refine ⟨⟨h, by omega, by omega, λ j hj => by rw [EK _ _ _ hj]; exact ⟨rfl, rfl⟩, h, by omega⟩, λ i hi => ?_⟩
 rw [e]; unfold upd1
 cases decide (i = a.k.toNat) <;> exact ⟨rfl, rfl⟩) (λ _ => Mi rfl rfl) _
def addS (a s : Span) : Span := ⟨wr (a.lo + s.lo), wr (a.hi + s.hi)⟩
def subS (a s : Span) : Span := ⟨wr (a.lo - s.hi), wr (a.hi - s.lo)⟩
def fwM (l : List Span) (s : Nat -> Span) : Nat -> Span
 | 0 => gD l 0
 | g + 1 => com (gD l (g + 1)) (addS (fwM l s g) (s g))
def bkM (f s : Nat -> Span) (n : Nat) : Nat -> Span
 | 0 => f n
 | j + 1 => com (f (n - (j + 1))) (subS (bkM f s n j) (s (n - (j + 1))))
def nS (w : Dk) (l : List Span) : List Span := HX l.length λ i => bkM (fwM l (Jo w)) (Jo w) (l.length - 1) (l.length - 1 - i)
structure DkS where
 w : Dk
 l : List Span
def dDkS : List AVal -> Heap -> Option (DkS × List (Nat × Nat) × List Nat)
 | [.bptr id _, y], H => match AGR H id, jU y H with
  | some (w, q), some (l, f) => some (⟨w, l⟩, [(100, id), (101, q)], f)
  | _, _ => none
 | _, _ => none
def C_nar : Ctr := { ro := [100, 101], α := DkS, xs := λ a => [.bptr 100 0, .d (DW a.l)], L := λ a => dkL a.w, val := λ a => .tup [.d (DW (nS a.w a.l)), .bool ((nS a.w a.l).all jN)], keep := λ a => dkK a.w, pre := λ a => [a.l.length = a.w.c.ms.length /\ 1 <= a.w.c.ms.length /\ a.w.c.ms.length <= 40] }
def nrH (a : DkS) (f : Nat -> Span) (p : AVal) : List (Nat × HCell) := dkK a.w ++ [(2016, .live (.row 2 a.l.length λ i => JS (f i))), (2032, .live (.box [.own 2016 2 0 a.l.length])), (3000, .live (.box [p]))]
def gpS (a : DkS) (l k : Nat) : List (Nat × AVal) := [(0, .fn (.yield l) [] []), (1, .bptr 4016 0), (12, .int (wr ((a.w.c.ms.length : Int) - 1))), (13, .int k)]
def gpB : Nat × HCell := (4016, .live (.box [.bptr 100 0]))
def gp1n (a : DkS) (l : Nat) : Shape := { α := One, dflt := default, T := λ _ => ⟨gpS a l 0, nrH a (gD a.l) (.d UJ) ++ [gpB]⟩, inv := λ _ => True, meas := λ _ => 60 }
def gp1o (a : DkS) (l : Nat) : Shape := { α := Nat, dflt := 0, T := λ k => ⟨gpS a l k, nrH a (gD a.l) (.own 302 2 0 k) ++ [gpB, (302, .live (.row 2 k λ i => JS (Jo a.w i)))]⟩, inv := λ k => 1 <= k /\ k <= a.w.c.ms.length - 1, meas := λ k => 50 - k, again := [(302, 6048)] }
noncomputable def CHO (a : DkS) : IterAnn := { fn := AOU, code := AP AOU, live := [6, 7], ann := { base := λ id => 100000 + 1000 * (id + 1), Γ := Sym.look [], E := [100, 101, 2016, 2032, 3000, 4016], n := 66, inner := λ gs id => if id = 1 then some [gp1n a (gs.getD 0 0), gp1o a (gs.getD 0 0)] else none } }
def nr6T (a : DkS) : One -> ST := λ _ => ⟨[(6, .bptr 2032 0), (7, .bptr 3000 0)], nrH a (gD a.l) (.d (DW (gapL a.w)))⟩
def nr6 (a : DkS) (z : List Nat) : Shape := { α := One, dflt := default, T := nr6T a, inv := λ _ => True, meas := λ _ => 0, ffz := z }
def nr7 (a : DkS) : Shape := { α := One, dflt := default, T := λ _ => ⟨[(6, .bptr 2032 0), (7, .bptr 3000 0), (10, .fn (.func ARF) [] [.bptr 2032 0])], nrH a (gD a.l) (.d (DW (gapL a.w)))⟩, inv := λ _ => True, meas := λ _ => 0 }
def nrF (a : DkS) (k i : Nat) : Span := bif decide (i <= k) then fwM a.l (Jo a.w) i else gD a.l i
def nrB (a : DkS) (j i : Nat) : Span := bif decide (a.w.c.ms.length - 1 - j <= i) then bkM (fwM a.l (Jo a.w)) (Jo a.w) (a.w.c.ms.length - 1) (a.w.c.ms.length - 1 - i) else fwM a.l (Jo a.w) i
def nr8 (a : DkS) : Shape := { α := Nat, dflt := 0, T := λ k => ⟨[(6, .bptr 2032 0), (7, .bptr 3000 0), (10, .fn (.func ARF) [] [.bptr 2032 0]), (25, .d (DW (gapL a.w))), (26, .int (gapL a.w).length), (27, .int k)], nrH a (nrF a k) (.d (DW (gapL a.w)))⟩, inv := λ k => k <= a.w.c.ms.length - 1, meas := λ k => 50 - k }
def nr13 (a : DkS) : Shape := { α := Nat, dflt := 0, T := λ j => ⟨[(6, .bptr 2032 0), (7, .bptr 3000 0), (10, .fn (.func ARF) [] [.bptr 2032 0]), (13, .int ((a.w.c.ms.length : Int) - 2 - j))], nrH a (nrB a j) (.d (DW (gapL a.w)))⟩, inv := λ j => j <= a.w.c.ms.length - 1, meas := λ j => 50 - j }
noncomputable def CFI (a : DkS) : Ann := { ann 92 [(ANV, C_clo.spec dSs1), (BFT, C_gaps.spec dDk1), (ARF, C_nar1.spec BWP), (n_eS, C4SnO.spec CGM)] with E := [100, 101], mt := λ id => id == 5, iter := λ g => if g = AES then some (CHO a) else none, loops := λ id => if id = 8 then some [nr8 a] else if id = 13 then some [nr13 a] else none, cut := λ id => if id = 6 then some [nr6 a [], nr6 a [302]] else if id = 7 then some [nr7 a] else none }
def CFJ (a : DkS) : Prop := DN Try.prog (CFI a) AIZ (AP AIZ) (C_nar.xs a) (AH (C_nar.L a)) (C_nar.val a) (C_nar.keep a) [] [2016]
abbrev VC:=DkS.l
abbrev Jl:=DkS.w
abbrev Zc:=nS
abbrev Fp a b:=AI a b b
abbrev Fk a b:=Mz (λ i=>CA a b)
abbrev UO a:=Fk FO a
abbrev JE a:=AQ (Jl a)
abbrev BEP a b:=NK (JE a) b
abbrev Vl a:=AW (JE a)
abbrev bC a:=BD (JE a)
abbrev aP a:=BE (JE a)
abbrev Zz a:=AZ (JE a)
abbrev Ci a:=BA (JE a)
abbrev aQ a (b:Nat->Span):=gU (VC a) b
abbrev As a b c:=aQ a (λ i=>nrB b c i)
abbrev Yk a b c:=BU (nrB a b c)
abbrev Cv a:=DR (VC a)
abbrev Av a:=NR a 1
abbrev BAX a:=BY (JE a)
abbrev Pg a:=Av (BAX a)
abbrev XA a:=gapL (Jl a)
abbrev rD a:=KX (XA a)
abbrev rW a:=MO (XA a)
abbrev Pm a:=MO (VC a)
abbrev jK a b:=Ua (ZY a) b
abbrev BIE a b:=jK (JE a) b
abbrev YD a b:=Ua (BIE a 2) (BW b)
abbrev BGK a b:=EY (YD a b)
abbrev iZ a b:=dJ (BGK a b)
abbrev Mg a:=Vt (λ i=>BEP a i)
abbrev bK a:=EC (Jl a)
abbrev Ly a:=Bf (JE a)
abbrev Hj a b:=LP a (Jl b)
abbrev pP a:=QG (JE a)
abbrev Mc a:=GO (JE a)
abbrev kZ a:=Ah (JE a)
abbrev Ki a:=EO (JE a)
abbrev AWQ a b c d e f g h:=AO a b c a d e f g h
abbrev Bh a b c d e f g h:=AO a b c c d e f g h
abbrev AYF a b c d e f g h:=AO a b c d e f d g h
abbrev oP a:=KX (VC a)
abbrev Ho a b:=WZ (λ i=>And a b)
abbrev Aq a:=Ho a FO
abbrev Dh a b c:=AN a (AZ b) (BE b) (BD b) c
abbrev BKL a b c d e f g h:=AO a b c d e c f g h
abbrev jO a b:=Jo (Jl a) b
abbrev tT a b:=BU (jO a b)
abbrev ZT a b c d e:=FX a (AI b c d) e
abbrev PF a (b:Nat->Prop) c (d:Nat->Prop) (e:Nat->Prop) f g h:=Ez a b c d e f (λ i=>QQ g i) h
abbrev ANM a b c d e f g h:=AO a b c d e f g g h
abbrev BEG a b c d e f g:=ANM a b c d b e f g
abbrev Kt a b:=CX (JE a) b
abbrev Fu a:=JW (DU a)
abbrev M7 a:=HA (JE a)
abbrev sH a:=wr (BIE a 1)
abbrev Ni a:=(@Eq Fn) (Fn.yield a) (Fn.yield a)
abbrev pT a b c d e:=Kr a (Hu XG 1 b) c d e
abbrev YO a b c d:=pT a b Vs (Ta c) (Tx c d)
abbrev Br a b c d e:=JJ a b c (FR d e)
abbrev WE a b c d:=Br a b c d b
abbrev Ey a b c d:=WE a b (RF c) d
abbrev YH a b c:=pT a b To Uk c
abbrev HJ:=AK OW
attribute [go_sem] VC Jl Zc Fp Fk UO JE BEP Vl bC aP Zz Ci aQ As Yk Cv Av BAX Pg XA rD rW Pm jK BIE YD BGK iZ Mg bK Ly Hj pP Mc kZ Ki AWQ Bh AYF oP Ho Aq Dh BKL jO tT ZT PF ANM BEG Kt Fu M7 sH Ni pT YO Br WE Ey YH HJ
theorem CKA (a : DkS) : (CFJ a) = (BZ (YL (VC a) (Cv a)) (IE (Er (VC a)) (LJ (LF (VC a))) (LF (VC a)) 1073741824) (Fp (MC (Ci a) (Zz a) (aP a) (KM (bC a) (Vl a) (BR (JE a)) (CW (JE a)) (DF (JE a)) (MY (JE a)) (λ i=>Hj i a) BC (Hi (EV (JE a)) (bK a) (BI (λ i=>FG (JE a) i (BEP a i))) (Ci a) (JE a) (OG (DA (JE a)) (λ i=>HN i (JE a)) (DB (JE a)) (λ i=>CQ i (JE a)) (λ i=>Hj i a) BC (EQ (JE a)) (λ i=>QQ (Jl a) i) (λ i=>FF (BEP a i) (JE a) i)))) (AK (λ i=>ZU (Aq (CM (Ni i) (AU (sH a) (TT (ZY (JE a)))) BM (Ci a) (Zz a) (aP a) (KM (bC a) (Vl a) (Ki a) (kZ a) (Mc a) (pP a) (λ j=>Hj j a) BC (AYF (Ly a) (bK a) (Mg a) (JN (VC a) (LF (VC a))) (ZH (Cv a) (VC a) (PX (VC a))) AJ AJ HJ)))) (Mz (λ j=>CU FO 0 (sH a) (BQ (Ey (DU 0) (BAX a) 0 (BW 0)) (YG 0 40) (NT 0 40) (ZT (KO (Jl a) 0) (BV i) (YH Bz 2 16) (GY (λ k=>OT (Hi (Ni i) (AM (sH a)) (BT k 0) (Ci a) (JE a) (PF (Ki a) (λ l=>EL l (JE a)) (Mc a) (λ l=>BS l (JE a)) (λ l=>Hj l a) (Ly a) (Jl a) (BEG (Mg a) (Pm a) (oP a) AJ AJ (MW k) (AK (λ l=>YP l k (tT a l) (Km (BU (M7 a)) (KY (Kt a (Fu 0)) (Kt a 0))) (jO a l) 200000000))))) (QO k (Pg a)) 50 k 60)) (AI (BV i) (YH Bz 2 16) (GY (λ k=>OT (Hi (Ni i) (AM (sH a)) (BT k 0) (Ci a) (JE a) (PF (Ki a) (λ l=>EL l (JE a)) (Mc a) (λ l=>BS l (JE a)) (λ l=>Hj l a) (Ly a) (Jl a) (BEG (Mg a) (Pm a) (oP a) AJ AJ (MW k) (AK (λ l=>YP l k (tT a l) (Km (BU (M7 a)) (KY (Kt a (Fu 0)) (Kt a 0))) (jO a l) (Km (CO (M7 a)) (KY (Kt a (Fu 0)) (Kt a 0)))))))) (QO k (Pg a)) 50 k 60))))) (WZ (λ k=>MC (Ci a) (Zz a) (aP a) (KM (bC a) (Vl a) (Ki a) (kZ a) (Mc a) (pP a) (λ l=>Hj l a) BC (AYF (Ly a) (bK a) (Mg a) (Pm a) (oP a) AJ (JN (XA a) 0) (JN (XA a) 0))) FO)))) (λ j=>CU (QO j (Pg a)) j (sH a) (BQ (Ey (DU j) (BAX a) j (BW j)) (YG j 40) (NT j 40) (ZT (KO (Jl a) j) (BV i) (YO (Bn j) 2 j 16) (GY (λ k=>DC (Hi (Ni i) (AM (sH a)) (BT k j) (Ci a) (JE a) (PF (Ki a) (λ l=>EL l (JE a)) (Mc a) (λ l=>BS l (JE a)) (λ l=>Hj l a) (Ly a) (Jl a) (BEG (Mg a) (Pm a) (oP a) AJ AJ (VT k j) (AK (λ l=>YP l k (tT a l) (LY l j (tT a l) (Km (BU (M7 a)) (KY (Kt a (Fu j)) (Kt a j)))) (jO a l) (LY l j (CO (jO a l)) 200000000)))))) (QO k (Pg a)) 50 k j)) (AI (BV i) (YO (Bn j) 2 j 16) (GY (λ k=>DC (Hi (Ni i) (AM (sH a)) (BT k j) (Ci a) (JE a) (PF (Ki a) (λ l=>EL l (JE a)) (Mc a) (λ l=>BS l (JE a)) (λ l=>Hj l a) (Ly a) (Jl a) (BEG (Mg a) (Pm a) (oP a) AJ AJ (VT k j) (AK (λ l=>YP l k (tT a l) (LY l j (tT a l) (Km (BU (M7 a)) (KY (Kt a (Fu j)) (Kt a j)))) (jO a l) (LY l j (CO (jO a l)) (Km (CO (M7 a)) (KY (Kt a (Fu j)) (Kt a j))))))))) (QO k (Pg a)) 50 k j))))) (Aq (Dh (Ci a) (JE a) (DG (Vl a) (Ki a) (kZ a) (Mc a) (λ k=>BS k (JE a)) (EP (Jl a)) BC (Ly a) (BKL (bK a) (Mg a) (Pm a) (oP a) AJ (JN (XA a) j) (MT j) (AK (λ k=>MQ k (DR (XA a)) (XA a) (tT a (BH k)) (jO a (BH k)))))))))))) (UO (And (WZ (λ i=>MC (Ci a) (Zz a) (aP a) (KM (bC a) (Vl a) (Ki a) (kZ a) (Mc a) (pP a) (λ j=>Hj j a) BC (AYF (Ly a) (bK a) (Mg a) (Pm a) (oP a) AJ (rW a) (rD a))) FO)) (UO (NQ (λ i=>BZ (rW a) (CM (rD a) (Ow (XA a)) (CF i) (Ci a) (Zz a) (aP a) (KM (bC a) (Vl a) (Ki a) (kZ a) (Mc a) (pP a) (λ j=>Hj j a) BC (AYF (Ly a) (bK a) (Mg a) (Pm a) (AK (λ j=>VK j (Cv a) (BU (nrF a i j)) (GK (VC a) j) (nrF a i j) (ML (VC a) j))) AJ (rW a) (rD a)))) (MG i (Pg a))) (λ i=>CU (MG i (Pg a)) i (Au (XA a)) (JJ (BW i) (DR (XA a)) (CM (YG i (Cv a)) (DD (BH i) (Cv a)) (YG i (Cv a)) (DD (BH i) (Cv a)) (AM (DU i)) (AM (GG (BU (nrF a i (BH i))) (GK (XA a) i))) (Bh (AM (GG (CO (nrF a i (BH i))) (US (XA a) i))) AJ (LO (aQ a (λ j=>nrF a i j)) (VC a)) (AK (λ j=>MQ j (DR (aQ a (λ k=>nrF a i k))) (aQ a (λ k=>nrF a i k)) (BU (nrF a i j)) (nrF a i j))) AJ (LO (VC a) (aQ a (λ j=>nrF a i j))) (DI (DU i)) (FR (DU i) (DR (aQ a (λ j=>nrF a i j)))))) (GY (λ j=>DC (BQ (rW a) (rD a) (Ow (XA a)) (AN (BT j i) (Ci a) (Zz a) (aP a) (KM (bC a) (Vl a) (Ki a) (kZ a) (Mc a) (pP a) (λ k=>Hj k a) BC (DG (Ly a) (bK a) (Mg a) (LO (VC a) (aQ a (λ k=>nrF a i k))) (λ k=>VK k (Cv a) (BU (nrF a j k)) (BU (upd1 (aQ a (λ l=>nrF a i l)) (DU i) (Ed (GG (BU (nrF a i (BH i))) (GK (XA a) i)) (GG (CO (nrF a i (BH i))) (US (XA a) i))) k)) (nrF a j k) (upd1 (aQ a (λ l=>nrF a i l)) (DU i) (Ed (GG (BU (nrF a i (BH i))) (GK (XA a) i)) (GG (CO (nrF a i (BH i))) (US (XA a) i))) k)) AJ (Pm a) (rW a) (rD a))))) (MG j (Pg a)) 50 j i))) (NQ (λ j=>And (AN (AU (YD a j) (TT (Au (XA a)))) (Ci a) (Zz a) (aP a) (KM (bC a) (Vl a) (Ki a) (kZ a) (Mc a) (pP a) (λ k=>Hj k a) BC (AYF (Ly a) (bK a) (Mg a) (Pm a) (AK (λ k=>VK k (Cv a) (Yk a j k) (BU (nrF a i k)) (nrB a j k) (nrF a i k))) AJ (rW a) (rD a)))) (MG j (Pg a))) (λ j=>CA (MG j (Pg a)) (TI (Lt (YD a j)) (AWQ (HB (BGK a j) (Cv a)) (DD (iZ a j) (Cv a)) (HB (YD a j) (DR (XA a))) (DD (iZ a j) (Cv a)) (HB (YD a j) (DR (XA a))) (AM (YD a j)) (AM (KY (Yk a j (iZ a j)) (US (XA a) (JW (YD a j))))) (Bh (AM (KY (CO (nrB a j (iZ a j))) (GK (XA a) (JW (YD a j))))) AJ (LO (As a a j) (VC a)) (AK (λ k=>MQ k (DR (As a a j)) (As a a j) (Yk a j k) (nrB a j k))) AJ (LO (VC a) (As a a j)) (DI (YD a j)) (FR (YD a j) (DR (As a a j))))) (GY (λ k=>DC (AN (AU (YD a k) (TT (YD a j))) (Ci a) (Zz a) (aP a) (KM (bC a) (Vl a) (Ki a) (kZ a) (Mc a) (pP a) (λ l=>Hj l a) BC (DG (Ly a) (bK a) (Mg a) (LO (VC a) (As a a j)) (λ l=>VK l (Cv a) (Yk a k l) (BU (upd1 (As a a j) (YD a j) (Ed (KY (Yk a j (iZ a j)) (US (XA a) (JW (YD a j)))) (KY (CO (nrB a j (iZ a j))) (GK (XA a) (JW (YD a j))))) l)) (nrB a k l) (upd1 (As a a j) (YD a j) (Ed (KY (Yk a j (iZ a j)) (US (XA a) (JW (YD a j)))) (KY (CO (nrB a j (iZ a j))) (GK (XA a) (JW (YD a j))))) l)) AJ (Pm a) (rW a) (rD a)))) (MG k (Pg a)) 50 k j)) (AI (Mb (Cr (LO (As a a j) (VC a)) (AN (AK (λ k=>MQ k (DR (As a a j)) (As a a j) (Yk a j k) (nrB a j k))) (LO (VC a) (As a a j)) (AK (λ k=>VK k (Cv a) (Yk a j k) (GK (As a a j) k) (nrB a j k) (ML (As a a j) k))) (DS (DR (As a a j))) FO))) (LO (Zc (Jl a) (VC a)) (VC a)) (DJ (MT (Cv a)) (λ k=>MQ k (DR (Zc (Jl a) (VC a))) (Zc (Jl a) (VC a)) (Yk a j (BH k)) (nrB a j (BH k))) (MF (yP (Zc (Jl a) (VC a)) jN) (yP (As a a j) jN)) (Ci a) (Zz a) (aP a) (bC a) (Vl a) (IF (JE a) (Jl a) (λ k=>BEP a k)))))))))))))) := by kernel_rfl
theorem BPZ {L : Nat} {f : Nat -> Span} {k : Int} {s : Span} {i : Nat} (hi : i < L) (hk : k.toNat < L) : upd1 (HX L f) k s i = bif decide (i = k.toNat) then com (f k.toNat) s else f i := by
 unfold upd1; rw [EK _ _ _ hi, EK _ _ _ hk]
theorem BVT (a : DkS) {k i : Nat} (hk : k + 1 < a.l.length) (hi : i < a.l.length) : nrF a (k + 1) i = upd1 (HX a.l.length λ i => nrF a k i) ((k + 1 : Nat) : Int) (addS (nrF a k k) (Jo a.w k)) i := by
 rw [BPZ hi (by show k + 1 < _; exact hk)]
 show _ = bif decide (i = k + 1) then com (nrF a k (k + 1)) _ else _
 by_cases h : i = k + 1
 ·subst h
  simp only [nrF, Nat.le_refl, decide_true, cond_true, show ¬ k + 1 <= k by omega, decide_false, cond_false]
  rfl
 ·have e : decide (i <= k + 1) = decide (i <= k) := by rw [decide_eq_decide]; omega
  simp only [nrF, h, e, decide_false, cond_false]
theorem BZO (a : DkS) {j i : Nat} (hl : a.l.length = a.w.c.ms.length) (hj : j + 2 <= a.l.length) (hi : i < a.l.length) : nrB a (j + 1) i = upd1 (HX a.l.length λ i => nrB a j i) ((a.w.c.ms.length - 2 - j : Nat) : Int) (subS (nrB a j (a.w.c.ms.length - 2 - j + 1)) (Jo a.w (a.w.c.ms.length - 2 - j))) i := by
 rw [BPZ hi (by show a.w.c.ms.length - 2 - j < _; omega)]
 show _ = bif decide (i = a.w.c.ms.length - 2 - j) then com (nrB a j (a.w.c.ms.length - 2 - j)) _ else _
 by_cases h : i = a.w.c.ms.length - 2 - j
 ·have e1 : decide (a.w.c.ms.length - 1 - (j + 1) <= i) = true := by rw [decide_eq_true_eq]; omega
  have e2 : decide (a.w.c.ms.length - 1 - j <= a.w.c.ms.length - 2 - j) = false := by rw [decide_eq_false_iff_not]; omega
  have e3 : decide (a.w.c.ms.length - 1 - j <= a.w.c.ms.length - 2 - j + 1) = true := by rw [decide_eq_true_eq]; omega
  have e4 : a.w.c.ms.length - 1 - i = j + 1 := by omega
  have e5 : a.w.c.ms.length - 1 - (a.w.c.ms.length - 2 - j + 1) = j := by omega
  have e6 : a.w.c.ms.length - 1 - (j + 1) = a.w.c.ms.length - 2 - j := by omega
  have e7 : decide (i = a.w.c.ms.length - 2 - j) = true := by rw [decide_eq_true_eq]; exact h
  have e8 : decide (a.w.c.ms.length - 2 - j <= i) = true := by rw [decide_eq_true_eq]; omega
  rw [e7]
  simp only [nrB, e2, e3, e4, e5, cond_true, cond_false, bkM, e6, e8]
 ·have e1 : decide (a.w.c.ms.length - 1 - (j + 1) <= i) = decide (a.w.c.ms.length - 1 - j <= i) := by rw [decide_eq_decide]; omega
  simp only [nrB, h, e1, decide_false, cond_false]
theorem COF (a : DkS) (h : a.l.length = a.w.c.ms.length /\ 1 <= a.w.c.ms.length /\ a.w.c.ms.length <= 40) : CFJ a := by
 obtain ⟨hl, h1, h2⟩ := h
 have e1 : wr ((a.w.c.ms.length : Int) - 1) = ((a.w.c.ms.length - 1 : Nat) : Int) := by unfold wr; rw [PE (by omega) (by omega)]; omega
 have e2 : IntKind.i64.wrap ((a.w.c.ms.length : Int) - 1) = ((a.w.c.ms.length - 1 : Nat) : Int) := e1
 have gl : (gapL a.w).length = a.w.c.ms.length - 1 := rng_length _ _
 have gg : ∀ {j : Nat}, j < a.w.c.ms.length - 1 -> gD (gapL a.w) j = Jo a.w j := λ hj => EK _ _ _ hj
 have lo : ∀ k, (Jo a.w k).lo = IntKind.i64.wrap (a.w.c.p.lo * IntKind.i64.wrap ((gD a.w.c.ms (k + 1)).pl - (gD a.w.c.ms k).pl)) := λ _ => rfl
 have hi1 : ∀ k, a.w.sp k = true -> (Jo a.w k).hi = 200000000 := λ k h => by unfold Jo; rw [h]; rfl
 have hi0 : ∀ k, a.w.sp k = false -> (Jo a.w k).hi = IntKind.i64.wrap (a.w.c.p.hi * IntKind.i64.wrap ((gD a.w.c.ms (k + 1)).pl - (gD a.w.c.ms k).pl)) := λ k h => by unfold Jo; rw [h]; rfl
 have ws : ∀ {k : Nat}, k < 40 -> IntKind.i64.wrap ((k : Int) + 1) = ((k + 1 : Nat) : Int) := λ h => HH (by omega)
 rw [CKA]<;> delta MF hd6 Sw BU CO FM TP WF Ua FQ FP CL DR AK CA DD AU ML BW Aj GM FX WN KZ KB XF NR IV HC HA HZ ID IA JD GN FW FY GY FO Wy yP PB JW ZA PY BI NH MG YE AQ OE KO uU Ed WZ Mz Ze VC Jl Zc AI BG DV EN GF AN BO BK CG BJ BB BY AO AM HS Fp FZ BL BV ED AWQ Wi Cr Bh ANM BKL BEG AYF NK CS GS CD CJ JE CX DM AZ IY CR CY DP MP EU DH BA AW HD Fs DQ GJ GG EA EI gU HY DG BD FS EJ FU KR BE EH ER OZ AJ EY FR OO BH DI BZ IE HM MN GC HI KP EF DU EO GI DS BC KY XD FH LB GK GR JG HR GX PX KU GO FI LC Ab FT JU LF TL BEP Bf LD JX IR KM TT Ac LG GD NL JH ZY VO BQ OT BT dJ LV SJ MK LR OG XA HB BR DC DF LP IL IP IS IM JZ EL CH MX MO OC NF RC NM CM Fu QA OF VK WQ By BM DB DA MM BS CW QQ QT OH KQ Av CU LJ QG EC JN NA PI JK BP MB Hu jK XG GP WG LY Ah Vt JJ BIE YR GA FV MQ HN KX UR VX EP YC CF Uc EV OW XS Km HJ Kr DJ FF UI aQ IF Az CQ FG MW LO US EQ pT YN MT QJ RF YD Hc Hv UW Fk Pj Br Tx NT Ci WE QO Ud Pu YL Cv To Vs Uk Hi MY MC NQ jO VT BAX Ta ZH As Ho Hj Ly Lt Mg Mc Pg Pm Ki YG UO Ty Kt Au TI Vl bK Oo YP Aq Dh aP Ow Ni bC Bz YO Bn Yk Up Zz YH ZU BGK rD kZ rW oP pP ZT Ey Er iZ tT M7 Ez sH Mb PF; simp only [CC, eq_self, implies_true, forall_const]; simp only [e1, e2, gl, hl]
 refine ⟨by omega, ⟨⟨default, trivial⟩, ⟨λ h0 => ?_, λ h0 => ⟨default, by omega⟩⟩, λ k hk => ⟨λ hlt => ?_, λ hge => ⟨default, by omega, Nat.le_refl _, λ j hj => by rw [gg hj]; exact ⟨rfl, rfl⟩⟩⟩⟩, ⟨default, trivial⟩, ⟨0, ⟨rfl, λ i hi => ?_⟩, Nat.zero_le _⟩, λ k hk => ⟨λ hlt => ?_, λ hge => ⟨⟨0, ⟨?_, λ i hi => ?_⟩, Nat.zero_le _⟩, λ j hj => ⟨λ hlt => ?_, λ hlt => ?_⟩⟩⟩⟩
 ·simp only [ws (show (0 : Nat) < 40 by omega), Int.toNat_natCast]
  refine ⟨by omega, by omega, by omega, λ h => ⟨by simp, 1, ⟨rfl, rfl, rfl, λ i hi => ?_⟩, by omega, by omega⟩, λ h => ⟨by simp, 1, ⟨rfl, rfl, rfl, λ i hi => ?_⟩, by omega, by omega⟩⟩
  ·obtain rfl : i = 0 := by omega
   exact ⟨lo 0, hi1 0 h⟩
  ·obtain rfl : i = 0 := by omega
   exact ⟨lo 0, hi0 0 h⟩
 ·simp only [ws (show k < 40 by omega), Int.toNat_natCast]
  refine ⟨by omega, by omega, by omega, λ h => ⟨⟨by omega, (λ h => by cases h), by omega, by omega⟩, k + 1, ⟨rfl, rfl, rfl, λ i hi => ?_⟩, by omega, by omega⟩, λ h => ⟨⟨by omega, (λ h => by cases h), by omega, by omega⟩, k + 1, ⟨rfl, rfl, rfl, λ i hi => ?_⟩, by omega, by omega⟩⟩
  ·by_cases q : i < k
   ·simp only [q, decide_true, cond_true, and_self]
   ·obtain rfl : i = k := by omega
    simp only [q, decide_false, cond_false]
    exact ⟨lo i, hi1 i h⟩
  ·by_cases q : i < k
   ·simp only [q, decide_true, cond_true, and_self]
   ·obtain rfl : i = k := by omega
    simp only [q, decide_false, cond_false]
    exact ⟨lo i, hi0 i h⟩
 ·by_cases q : i = 0
  ·subst q; exact ⟨rfl, rfl⟩
  ·have : ¬ i <= 0 := by omega
   simp only [nrF, this, decide_false, cond_false, and_self]
 ·simp only [ws (show k < 40 by omega)]
  refine ⟨by omega, ⟨by omega, by omega, by omega, by omega, λ i hi => by rw [EK _ _ _ hi]; exact ⟨rfl, rfl⟩, by omega, by omega⟩, k + 1, ⟨rfl, λ i hi => ?_⟩, by omega, by omega⟩
  have e := BVT a (k := k) (i := i) (by omega) (by omega)
  rw [gg (by omega), e, hl]; exact ⟨rfl, rfl⟩
 ·rw [PE (by omega) (by omega)]; omega
 ·obtain rfl : k = a.w.c.ms.length - 1 := by omega
  have q1 : decide (i <= a.w.c.ms.length - 1) = true := by rw [decide_eq_true_eq]; omega
  unfold nrB nrF; rw [q1]
  by_cases q : a.w.c.ms.length - 1 - 0 <= i
  ·have q2 : a.w.c.ms.length - 1 - i = 0 := by omega
   have q3 : i = a.w.c.ms.length - 1 := by omega
   simp only [q, decide_true, cond_true, q2, bkM]; rw [<- q3]; exact ⟨rfl, rfl⟩
  ·simp only [q, decide_false, cond_false, cond_true, and_self]
 ·have g0 : (a.w.c.ms.length : Int) - 2 - j = ((a.w.c.ms.length - 2 - j : Nat) : Int) := by omega
  have g1 : IntKind.i64.wrap (((a.w.c.ms.length - 2 - j : Nat) : Int) + 1) = ((a.w.c.ms.length - 2 - j + 1 : Nat) : Int) := ws (by omega)
  simp only [g0, g1, Int.toNat_natCast]
  refine ⟨⟨by omega, by omega, by omega, by omega, by omega, by omega, λ i hi => by rw [EK _ _ _ hi]; exact ⟨rfl, rfl⟩, by omega, by omega⟩, j + 1, ⟨?_, λ i hi => ?_⟩, by omega, by omega⟩
  ·rw [PE (by omega) (by omega)]; omega
  ·have e := BZO a (j := j) (i := i) hl (by omega) (by omega)
   rw [gg (by omega), e, hl]; exact ⟨rfl, rfl⟩
 ·have q : j = a.w.c.ms.length - 1 := by omega
  have eq1 : ∀ i, i < a.w.c.ms.length -> gD (nS a.w a.l) i = nrB a j i := λ i hi => by
   unfold nS; rw [EK _ _ _ (by omega), hl]
   have q2 : decide (a.w.c.ms.length - 1 - j <= i) = true := by rw [decide_eq_true_eq]; omega
   unfold nrB; rw [q2]; rfl
  have nl : (nS a.w a.l).length = a.w.c.ms.length := by unfold nS; rw [rng_length, hl]
  refine ⟨⟨λ i hi => by rw [EK _ _ _ hi]; exact ⟨rfl, rfl⟩, λ i hi => by rw [EK _ _ _ hi]; exact ⟨rfl, rfl⟩, by omega⟩, nl, Nat.le_refl _, λ i hi => by rw [eq1 i (by omega)]; exact ⟨rfl, rfl⟩, ?_⟩
  congr 1
  exact BVB (by rw [nl, rng_length]) λ i hi => by rw [eq1 i (by omega), EK _ _ _ (by omega)]
theorem BNQ : AR Try.prog Yv (C_nar.spec dDkS) := Jp C_nar CFI [] [2016] BIK (λ _ => by kernel_rfl) (λ _ => AC BYW (AC BRH (AC CBZ (AC CJR AL)))) (λ a h => COF a h) (λ a => CFA AES (CHO a) rfl rfl AL BKS (by kernel_rfl) (by kernel_rfl)) _
end Go.Bal
