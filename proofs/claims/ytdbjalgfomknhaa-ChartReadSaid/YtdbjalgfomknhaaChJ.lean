/- Package chart: the greatest stages from a time to another one. -/
import Derived.Test.YtdbjalgfomknhaaChI
set_option linter.unusedVariables false
set_option linter.unusedSimpArgs false
namespace Go.Bal
open Go Go.Sym Go.Proofs
structure CZ2 where
 a : CZ
 f : Int
 t : Int
structure IJ where
 i : Nat
 j : Nat
 deriving Inhabited
def dCZ2 : List AVal -> Heap -> Option (CZ2 × List (Nat × Nat) × List Nat)
 | [x, y, .d f, .d t], H => match AIZ x H, AEB y H with
  | some (c, g), some (l, e) => some (⟨⟨c, l⟩, FQ f, FQ t⟩, [], g ++ e)
  | _, _ => none
 | _, _ => none
def xCZ2 (x : CZ2) : List AVal := [.d (aK x.a.c), .d (IN x.a.z), .int x.f, .int x.t]
def gY (x : CZ2) : Int := GV x.f (-100000001)
def hU (x : CZ2) : Int := PV x.t 100000001
def gS (x : CZ2) (a b : Nat) : Bool := (Ry (JB x.a) (vZ (UD x.a) (a : Int) (b : Int) (gY x) (hU x))).all Ps
def Pm (x : CZ2) (a b : Nat) : List Span := OF (b + 1 - a) λ i => gD (FK x.a.c) (a + i)
def pkI (x : CZ2) (a : Nat) (h : Hul) : Nat -> Hul
 | 0 => h
 | k + 1 => bif gS x a (a + k) then Cz (pkI x a h k) ⟨gLo (Pm x a (a + k)), gHi (Pm x a (a + k))⟩ else pkI x a h k
def vV (x : CZ2) : Nat -> Hul
 | 0 => zHul
 | a + 1 => bif decide (hU x >= gY x) then pkI x a (vV x a) (x.a.c.ms.length - a) else vV x a
def F8 (x : CZ2) : Span × Int := bif decide (x.t < x.f) then (⟨0, 0⟩, 4) else Kt (vV x x.a.c.ms.length)
def SX (x : CZ2) : Span × Int := bif FO x.a == 0 then F8 x else (⟨0, 0⟩, FO x.a)
def C_Peak : Ctr := { α := CZ2, xs := xCZ2, val := λ x => .tup [.d (IY (SX x).1), .int (SX x).2], keep := λ _ => [], pre := λ x => [x.a.c.ms.length < 4611686018427387904 /\ x.a.c.ns.length < 4611686018427387904 /\ x.a.z.length < 4611686018427387904] }
def pkS (x : CZ2) (a : Nat) : List (Nat × AVal) := [(2, .int (gY x)), (3, .int (hU x)), (8, .bptr 202 0), (10, .bptr 208 0), (11, .d (CK (UD x.a))), (12, .d (CK (FK x.a.c))), (14, .bptr 206 0), (42, .int x.a.c.ms.length), (43, .int a)]
def pkH (x : CZ2) (h : Hul) : List (Nat × HCell) := [(202, .live (.box [.int 0, .int 0])), (206, .live (hlB h)), (208, .live (dkB (JB x.a) 209)), (209, .live (dkM (JB x.a)))]
def pk9 (x : CZ2) : Shape := { α := Nat, dflt := 0, T := λ a => ⟨pkS x a, pkH x (vV x a)⟩, inv := λ a => a <= x.a.c.ms.length, meas := λ a => x.a.c.ms.length - a, first := [(202, 1016), (206, 8000), (208, 2032), (209, 2033)] }
def pk12 (x : CZ2) (m : Nat) : Shape := { α := IJ, dflt := default, T := λ s => ⟨[(15, .int s.i), (16, .int s.j)] ++ pkS x s.i, pkH x (pkI x s.i (vV x s.i) (s.j - s.i))⟩, inv := λ s => s.i < x.a.c.ms.length /\ x.a.c.ms.length - s.i = m /\ s.i <= s.j /\ s.j <= x.a.c.ms.length /\ (s.i < s.j -> hU x >= gY x), meas := λ s => x.a.c.ms.length - s.j }
def BHB (x : CZ2) : Ann := { ann 91 [(Sv, C_rdO.spec dCZ), (AGI, C_win.spec dDkW), (Ro, C_nar.spec dDkS), (AKW, C_least.spec dN0c), (ATL, C_most.spec dN0c), (gI, orS (C_grL.spec BNG) (C_grH.spec BOP)), (N3, C_hadd.spec dHuS), (K9, C_who.spec dHu1)] with loops := λ id => if id = 9 then some [pk9 x] else none, inner := λ gs id => if id = 12 then some [pk12 x (gs.getD 0 0)] else none }
def AXI : Ann := ann 91 [(Sv, C_rdX.spec dCZ)]
def BHW (x : CZ2) : Prop := CR Try.prog (BHB x) AEN (AL AEN) (xCZ2 x) (AE []) (.tup [.d (IY (F8 x).1), .int (F8 x).2]) [] [] []
abbrev LM:=CZ2.a
abbrev ABU:=F8
abbrev wG:=@Exists IJ
abbrev FS:=IJ.i
abbrev JW:=IJ.j
abbrev AJD:=@GE.ge Int Int.instLEInt
abbrev AIY:=λ (f : IJ -> Prop) => ∀ (x : IJ), f x
abbrev fH a b:=Du (vV a b)
abbrev QX a:=DU (LM a)
abbrev TL a:=BV (QX a)
abbrev Jt a:=UI (LM a)
abbrev Xo a b:=fO a (LM b)
abbrev DS a:=FJ (LM a)
abbrev AJI a b:=MT a (FS b)
abbrev Nw a b:=pkI a (FS b) (vV a (FS b)) (AJI (JW b) b)
abbrev Jl a b:=Du (Nw a b)
abbrev gR a b:=Pj (QX a) b
abbrev Fo a:=XL (QX a)
abbrev YE a:=UD (LM a)
abbrev Jw a b c:=BQ a (JW b) c
abbrev Kj a b:=CW (JW a) b
abbrev Hy a b c:=gH (AJI a b) a c
abbrev Yo a b:=JS (FS a) b
abbrev Sp a b:=Yo a (FS b)
abbrev AET a b c:=gR a (UN (FS b) c)
abbrev AFL a:=AJI (UK (JW a)) a
abbrev Af a b c:=Eb (AFL a) (λ i=>AET b c i)
abbrev Ig a:=CG (FS a)
abbrev sY a:=CG (JW a)
abbrev XF a:=BK (LM a)
attribute [go_sem] LM ABU wG FS JW AJD AIY fH QX TL Jt Xo DS AJI Nw Jl gR Fo YE Jw Kj Hy Yo Sp AET AFL Af Ig sY XF
theorem BKX (x : CZ2) : (BHW x) = (JR (AT (QX x)) (AW (QX x)) (AV (QX x)) (BA (QX x)) (FM (BB (QX x)) (BF (QX x)) (BM (QX x)) (SD (LM x) (QX x)) (λ i=>MG i (LM x) (WW (LM x) i) (UL (LM x) i) (VK (LM x) i)) (OA (LM x)) (λ i=>PH i (LM x)) (PQ (QX x) (LM x)) (EV (YX (LM x)))) (EZ (PD (CZ2.t x) (CZ2.f x)) (AH (Ga (Rd (ABU x))) (Ay (Rd (ABU x))) (AS (Zn (ABU x)) 4)) (IF (λ i=>WE (GH (AS (gY x) (Ob (CZ2.f x) (-100000001))) (AS (hU x) (wC (CZ2.t x) 100000001)) (HT (YE x) (Cr (LM x))) (AF (λ j=>TE j (YE x) j (Cr (LM x)))) (HT (Fo x) (XL (SP (LM x)))) (AF (λ j=>JN j (Fo x) (gR x j) (Pj (SP (LM x)) j))) (Ar (JS (TL x) (GY (Cr (LM x)))) (CY i) (AN (Ga (fH x i)) (Ay (fH x i)) (EX (Dx (vV x i))) (RZ (DS x) (XF x)) (SH (DS x) (XF x)) (SC (DS x) (XF x)) (RG (DS x) (XF x)) (RR (DS x) (XF x)) (LI (RL (DS x) (XF x)) (λ j=>RQ j (DS x) (RF (DS x) j (XF x) j) j (XF x) j) (SB (DS x) (XF x)) (λ j=>EP j (DS x) (SK (SF (DS x) j (XF x) j) (DS x) j (AP (XF x) j) j (AO (XF x) j) (AM (XF x) j))) (λ j=>XH j (ID (Jt x) j) (ID (NR (LM x)) j)) BI (DF (λ j=>UX (DS x) j (XF x) j)) (λ j=>VD (Jt x) j (NR (LM x)) j) (λ j=>VF (KB (DS x) j) (XF x) j (KU (DS x) j) (DS x) j))))) i (TL x))) (AF (λ i=>IR (MN i (TL x)) i (ND (QX x)) (wG (λ j=>DA (AN (Yo j i) (JS (JW j) i) (AJ (gY x)) (AJ (hU x)) (IC (YE x)) (LL (YE x)) (IC (Fo x)) (AF (λ k=>TS k (Fo x) (CD (gR x k)) (gR x k))) (Ar (RD (QX x)) (Yo j i) (DP (BT (Jl x j) (fH x i)) (BJ (Jl x j) (fH x i)) (Og (Nw x j) (vV x i)) (DS x) (λ k=>Xo k x) (Jt x)))) (DC (FS j) (TL x)) (Hy (TL x) j i) (CW (FS j) (JW j)) (Kj j (TL x)) (Jw (FS j) j (AJD (hU x) (gY x))))) (AIY (λ j=>KZ (AK (DC (FS j) (TL x)) (Hy (TL x) j i) (CW (FS j) (JW j)) (Kj j (TL x)) (Jw (FS j) j (AJD (hU x) (gY x)))) (GB (IM (JW j) (LB (YE x))) (bO (hU x) (gY x))) (BH (Aw (YE x)) (AF (λ k=>OH k (YE x) k)) (GX (FS j)) (JO (GX (JW j)) (AJ (gY x)) (AJ (hU x)) (DS x) (KO (BF (DS x)) (λ k=>CE k (DS x)) (CA (DS x)) (λ k=>BC k (DS x) (BG (DS x) k) (BD (DS x) k) (AP (DS x) k) (AZ (DS x) k) (AO (DS x) k) (BE (DS x) k) (AM (DS x) k)) (λ k=>Xo k x) BI (EN (DS x)) (λ k=>JY (Jt x) k) (AN (EM (DS x)) (AT (DS x)) (AW (DS x)) (AV (DS x)) (BA (DS x)) (BB (DS x)) (DQ (DS x)) (FI (DS x)) (NN (DK (DS x)) (EJ (DS x)) (λ k=>Xo k x) (EY (DS x)) (Jt x) (GC (DS x)) (BH (And (JX (JH (YE x))) (UQ (JH (YE x)))) (IW (FS j) (JH (YE x))) (CX (sY j)) (FZ (sY j) (JH (YE x)))) (QK (Aw (vZ (UJ (YE x)) (Ig j) (sY j) (gY x) (hU x))) (AF (λ k=>OH k (vZ (UJ (YE x)) (Ig j) (sY j) (gY x) (hU x)) k)) (AT (DS x)) (DS x) (AV (DS x)) (BF (DS x)) (NY (DS x) (λ k=>BC k (DS x) (BG (DS x) k) (BD (DS x) k) (AP (DS x) k) (AZ (DS x) k) (AO (DS x) k) (BE (DS x) k) (AM (DS x) k)) (AF (λ k=>Xo k x)) BI (EN (DS x)) (HB (Jt x)) (EM (DS x)) (RV (DS x) (AN (EJ (DS x)) (AF (λ k=>Xo k x)) BI (EY (DS x)) (HB (Jt x)) (GC (DS x)) (LY (JH (vZ (UJ (YE x)) (Ig j) (sY j) (gY x) (hU x))) (DS x)) (QO (DS x)) (MD (DS x))))))))))) (DH (pQ (Vn (ZX (DG (DS x)) (Jt x)) (UJ (vZ (UJ (YE x)) (Ig j) (sY j) (gY x) (hU x)))) Ps) (AK (AH (CX (Ig j)) (HU (Ig j) (EH (JW j))) (HU (EH (JW j)) (LB (Fo x)))) (NA (Af j x j) (AFL j)) (AF (λ k=>PK k (Af j x j) k (AET x j k))) (And (Gm (GY (Af j x j))) (RK (GY (Af j x j)))) (KI (AH (CX (Ig j)) (HU (Ig j) (EH (JW j))) (HU (EH (JW j)) (LB (Fo x)))) (NA (Af j x j) (AFL j)) (λ k=>PK k (Af j x j) k (AET x j k)) (And (Gm (GY (Af j x j))) (RK (GY (Af j x j)))) (AJ (gLo (Af j x j))) (AJ (gHi (Af j x j))) (QP (Nw x j)) (BO (Jl x j)) (Aa (Nw x j)))) (wG (λ k=>WT (AN (Sp k j) (CJ (JW k) (JW j)) (AJ (gY x)) (AJ (hU x)) (IC (YE x)) (LL (YE x)) (IC (Fo x)) (AF (λ l=>TS l (Fo x) (CD (gR x l)) (gR x l))) (Ar (RD (QX x)) (Sp k j) (DP (BT (Jl x k) (Ak (Nw x j) (Di (gLo (Af j x j)) (gHi (Af j x j))))) (BJ (Jl x k) (Ak (Nw x j) (Di (gLo (Af j x j)) (gHi (Af j x j))))) (EK (Dx (Nw x k))) (DS x) (λ l=>Xo l x) (Jt x)))) (AK (DC (FS k) (TL x)) (Hy (TL x) k i) (CW (FS k) (JW k)) (Kj k (TL x)) (Jw (FS k) k (AJD (hU x) (gY x)))) (TL x) (JW k) (JW j))) (wG (λ k=>WT (AN (Sp k j) (CJ (JW k) (JW j)) (AJ (gY x)) (AJ (hU x)) (IC (YE x)) (LL (YE x)) (IC (Fo x)) (AF (λ l=>TS l (Fo x) (CD (gR x l)) (gR x l))) (Ar (RD (QX x)) (Sp k j) (DP (BT (Jl x k) (Jl x j)) (BJ (Jl x k) (Jl x j)) (Og (Nw x k) (Nw x j)) (DS x) (λ l=>Xo l x) (Jt x)))) (AK (DC (FS k) (TL x)) (Hy (TL x) k i) (CW (FS k) (JW k)) (Kj k (TL x)) (Jw (FS k) k (AJD (hU x) (gY x)))) (TL x) (JW k) (JW j)))) (IF (λ k=>YZ (GH (AJ (gY x)) (AJ (hU x)) (IC (YE x)) (LL (YE x)) (IC (Fo x)) (AF (λ l=>TS l (Fo x) (CD (gR x l)) (gR x l))) (Ar (RD (QX x)) (CJ k (FS j)) (DP (BT (fH x k) (Jl x j)) (BJ (fH x k) (Jl x j)) (Og (vV x k) (Nw x j)) (DS x) (λ l=>Xo l x) (Jt x)))) k (TL x) k i)))) (BH (And (QP (vV x i)) (ACB (BO (fH x i)) (Aa (vV x i)) (QP (vV x i)))) (BT (Rd (ABU x)) (Om (vV x i))) (BJ (Rd (ABU x)) (Om (vV x i))) (AS (Zn (ABU x)) (Fe (XK (vV x i))))))))) := by kernel_rfl
def AXD (x : CZ2) : Prop := CR Try.prog AXI AEN (AL AEN) (xCZ2 x) (AE []) (.tup [.d (IY zSp), .int (FO x.a)]) [] [] []
theorem BGI (x : CZ2) : (AXD x) = (JR (AT (QX x)) (AW (QX x)) (AV (QX x)) (BA (QX x)) (FM (BB (QX x)) (BF (QX x)) (BM (QX x)) (SD (LM x) (QX x)) (λ i=>MG i (LM x) (WW (LM x) i) (UL (LM x) i) (VK (LM x) i)) (OA (LM x)) (λ i=>PH i (LM x)) (PQ (QX x) (LM x)) (PJ (YX (LM x)))) (FG (IE (YX (LM x))) (ZT CU (Bz (LM x) (YX (LM x)))) (YB (PD (CZ2.t x) (CZ2.f x)) (ZT CU (Bz (LM x) 4))))) := by kernel_rfl
theorem APB (l : List Span) (a b x y : Int) : (vZ l a b x y).length = l.length := by unfold vZ; rw [aR, aR]
theorem pk1 (x : CZ2) {i j : Nat} (h : Hul) (hij : i <= j) (hw : gS x i j = true) : pkI x i h (j + 1 - i) = Cz (pkI x i h (j - i)) ⟨gLo (Pm x i j), gHi (Pm x i j)⟩ := by
 rw [show j + 1 - i = (j - i) + 1 by omega]
 show (bif gS x i (i + (j - i)) then _ else _) = _
 rw [show i + (j - i) = j by omega, hw]; rfl
theorem pk0 (x : CZ2) {i j : Nat} (h : Hul) (hij : i <= j) (hw : gS x i j = false) : pkI x i h (j + 1 - i) = pkI x i h (j - i) := by
 rw [show j + 1 - i = (j - i) + 1 by omega]
 show (bif gS x i (i + (j - i)) then _ else _) = _
 rw [show i + (j - i) = j by omega, hw]; rfl
theorem BRQ (x : CZ2) (h1 : x.a.c.ms.length < 4611686018427387904 /\ x.a.c.ns.length < 4611686018427387904 /\ x.a.z.length < 4611686018427387904) (c0 : FO x.a = 0) : BHW x := by
 have tl := vL c0
 have sl := Sx x.a.c
 obtain ⟨_, ⟨n1, n2⟩, _⟩ := PE (Vl c0).1
 have wo : ∀ a b : Nat, (Ry (JB x.a) (vZ (UD x.a) (a : Int) (b : Int) (gY x) (hU x))).all Ps = gS x a b := λ _ _ => rfl
 have pf : GV x.f (-100000001) = gY x := rfl
 have pt : PV x.t 100000001 = hU x := rfl
 have so : ∀ a b : Nat, (OF (b + 1 - a) λ i => gD (FK x.a.c) (a + i)) = Pm x a b := λ _ _ => rfl
 rw [BKX]<;> delta LV bO He CI CH FE PS SI EE FH CL GY AF CV DC AS IA CG UB CW FG PD HU KV UC Ob wC MT JT HP GG IQ IV IX JU GZ GM HK LC IF Eb pQ FV ET XS LX HX UN OE DF MA MN AG ID DU YR UI Di XL Vn Td Dx Du Rd Zn LM ABU wG FS JW AJD AIY AH DD EL EW GS AK FJ BN BQ UL CF SO AJ HR GI EQ BU FT aS ACB Ly BJ KB AN AM BV AZ CD Hc BR JD BL AO ACL DZ JI EI NO DV DI CB GN AT BB GO EP HD BO Mt DG DY AP BT BA ED AW BE XT FZ Ua LZ CX Pi AV FN DS GF FA DB CM EF NC GR JF KU PN EU GQ HZ BD FL wV TY NT BH BI Et EG TW FX IT EK Pj GA UJ CS GD SP BK EH UE QX GJ EC TS JH Fx WX DH OD Be EA CQ FY IW FM MW XD JY ND OC IC BC KO MB IL LY Bc BF CA DK Fv FU BG NQ FP ZR HB RA KT KX LJ GT GX KR QD LI YH JX CJ WW AJI NR NA Dq Gv JS CU OY UK Mm EV YE gR GH Wq LL PM IM DQ SQ JL Iz Jd SK JN DE QN CE BM DT gH IB DA fO EX VM WP GB CY KZ ME KI UP WQ EZ HT TL VH XK TD JO DX TU EJ JM UU WS IR QK EN FI EY LB UW WT Ev Gm UQ XF QP YX DP WK AFL EM MD AET RD YY JR RK UV Xy Nw TZ GC Yo SD QO Fo Jt Af Ig Bv RL Jq RZ SB Jl Cr Aa Cg Ju RR Fe PK Ks YZ OA PQ PH TA Kq Rf SC SH RG Kj UX RF SF WE Ak VK VD Jw Om RE Ay sY Sp OH Aw Hy ZX RH MG Xo Ar RV NN VF RQ XH fH Og Ga TE NY; simp only [CC, eq_self, implies_true, forall_const, DW, Rm, dH, Sr, aQ, AKP, BBB]; simp only [tl, sl, wo, APB, pf, pt]
 refine ⟨⟨h1, c0⟩, λ h4 => ?_, λ h4 => ⟨⟨0, ?_, Nat.zero_le _⟩, λ a ha => ⟨λ hlt => ⟨⟨⟨a, a⟩, ?_, by show a < _; omega, rfl, Nat.le_refl _, by show a <= _; omega, λ h => absurd h (Nat.lt_irrefl _)⟩, λ s ⟨s1, s2, s3, s4, s5⟩ => ⟨λ hc => ?_, λ hc => ?_⟩⟩, λ hge => ?_⟩⟩⟩
 ·unfold F8; rw [decide_eq_true h4]; exact ⟨rfl, rfl, rfl⟩
 ·simp; exact ⟨rfl, rfl, rfl⟩
 ·simp [pkI]
 ·have hj : s.j < x.a.c.ms.length := by
   cases hd : decide ((s.j : Int) < x.a.c.ms.length) with
   | false => rw [hd] at hc; cases hc
   | true => have := of_decide_eq_true hd; omega
  have hft : hU x >= gY x := by
   rw [decide_eq_true (show (s.j : Int) < x.a.c.ms.length by omega)] at hc
   exact of_decide_eq_true hc
  have ew : IntKind.i64.wrap ((s.j : Int) + 1) = ((s.j + 1 : Nat) : Int) := MO (by omega)
  simp only [ew, Int.toNat_natCast, so]
  have bound : ∀ i, i < s.j + 1 - s.i -> (gD (Pm x s.i s.j) i).lo = (gD (FK x.a.c) (s.i + i)).lo /\ (gD (Pm x s.i s.j) i).hi = (gD (FK x.a.c) (s.i + i)).hi := λ i hi => by
   unfold Pm; rw [HM _ _ _ hi]; exact ⟨rfl, rfl⟩
  refine ⟨?_, λ hw => ⟨?_, ⟨s.i, s.j + 1⟩, ?_, ⟨s1, s2, by show s.i <= s.j + 1; omega, by show s.j + 1 <= _; omega, λ _ => hft⟩, by show x.a.c.ms.length - (s.j + 1) < _; omega⟩, λ hw => ⟨⟨s.i, s.j + 1⟩, ?_, ⟨s1, s2, by show s.i <= s.j + 1; omega, by show s.j + 1 <= _; omega, λ _ => hft⟩, by show x.a.c.ms.length - (s.j + 1) < _; omega⟩⟩
  ·simp; omega
  ·refine ⟨⟨by omega, by omega, by omega⟩, bound, ⟨by omega, by omega⟩, ⟨by omega, by omega, by omega⟩, bound, by omega, by omega⟩
  ·have e := pk1 x (vV x s.i) s3 hw
   simp only [e]; simp; rfl
  ·have e := pk0 x (vV x s.i) s3 hw
   simp only [e]; simp
 ·have e : vV x (s.i + 1) = pkI x s.i (vV x s.i) (s.j - s.i) := by
   show (bif decide (hU x >= gY x) then _ else _) = _
   by_cases hft : hU x >= gY x
   ·rw [decide_eq_true hft] at hc ⊢
    have hj : s.j = x.a.c.ms.length := by
     cases hd : decide ((s.j : Int) < x.a.c.ms.length) with
     | true => rw [hd] at hc; cases hc
     | false => have := of_decide_eq_false hd; omega
    rw [hj]; rfl
   ·rw [decide_eq_false hft]
    have : s.j = s.i := by
     rcases Nat.lt_or_ge s.i s.j with h | h
     ·exact absurd (s5 h) hft
     ·omega
    rw [this, Nat.sub_self]; rfl
  refine ⟨s.i + 1, ⟨(MO (by omega)).symm, ?_, ?_, ?_⟩, by omega, by omega⟩ <;> rw [e]
 ·obtain rfl : a = x.a.c.ms.length := by omega
  unfold F8; rw [decide_eq_false h4]; exact ⟨rfl, rfl, rfl⟩
theorem AYD : AR Try.prog AMK (C_Peak.spec dCZ2) := okT C_Peak (λ (x : CZ2) h => by
 have h1 : x.a.c.ms.length < 4611686018427387904 /\ x.a.c.ns.length < 4611686018427387904 /\ x.a.z.length < 4611686018427387904 := h
 by_cases c0 : FO x.a = 0
 ·have e : C_Peak.val x = .tup [.d (IY (F8 x).1), .int (F8 x).2] := by
   show AVal.tup [.d (IY (SX x).1), .int (SX x).2] = _
   unfold SX; rw [c0]; rfl
  rw [e]
  exact Ky (A := BHB x) (L := []) (keep := []) (ren := []) (fz := []) AVW (by kernel_rfl) (AC AMO (AC BTS (AC ATC (AC BEJ (AC BJU (AC (BBF BQO BSN) (AC ANA (AC AUS AI)))))))) (BRQ x h1 c0)
 ·have c0' : (FO x.a == 0) = false := by simpa using c0
  have e : C_Peak.val x = .tup [.d (IY zSp), .int (FO x.a)] := by
   show AVal.tup [.d (IY (SX x).1), .int (SX x).2] = _
   unfold SX; rw [c0']; rfl
  rw [e]
  refine Ky (A := AXI) (L := []) (keep := []) (ren := []) (fz := []) AVW (by kernel_rfl) (AC AMD AI) ?_
  show AXD x; rw [BGI]<;> delta CI CH FE EE FH CL AF CV DC AS UB FG PD JT HP GG IQ IV IX JU GZ GM HK LC FV ET XS PX OW DU YR LM AH DD EL EW GS AK BN BQ UL CF SO AJ GI EQ ZT BJ AN BV CD Hc BR JD BL DZ EI DI CB GN AT BB BO Mt DY BT BA ED AW LZ Pi AV GF FA CM GR GQ FL EG GD SP QX GJ EC OD EA CQ FY FM OC IL BF Fv NQ GT QD WW Gv CU Mm JL CE BM IB IE YX YY JR UV SD PJ OA PQ PH TA VK RH MG Bz YB; simp only [CC, eq_self, implies_true, forall_const, DW, Sr]
  exact ⟨⟨h1, c0⟩, λ h => by simp [c0] at h⟩) _
end Go.Bal
