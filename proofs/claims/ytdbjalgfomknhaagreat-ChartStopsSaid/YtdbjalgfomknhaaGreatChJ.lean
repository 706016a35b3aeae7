/- Package chart: the greatest stages from a time to another one. -/
import Derived.Test.YtdbjalgfomknhaaGreatChI
set_option linter.unusedVariables false
set_option linter.unusedSimpArgs false
namespace Go.Bal
open Go Go.Sym Go.Proofs
structure CZ2 where
 a : CZ
 f : Int
 t : Int
structure IJ where
 i : Nat
 j : Nat
 deriving Inhabited
def dCZ2 : List AVal -> Heap -> Option (CZ2 × List (Nat × Nat) × List Nat)
 | [x, y, .d f, .d t], H => match kV x H, ACO y H with
  | some (c, g), some (l, e) => some (⟨⟨c, l⟩, HJ f, HJ t⟩, [], g ++ e)
  | _, _ => none
 | _, _ => none
def xCZ2 (x : CZ2) : List AVal := [.d (Ak x.a.c), .d (PH x.a.z), .int x.f, .int x.t]
def pkF (x : CZ2) : Int := MY x.f (-100000001)
def Z9 (x : CZ2) : Int := XC x.t 100000001
def AJH (x : CZ2) (a b : Nat) : Bool := (Fg (KB x.a) (M5 (T5 x.a) (a : Int) (b : Int) (pkF x) (Z9 x))).all He
def sliS (x : CZ2) (a b : Nat) : List Span := ME (b + 1 - a) λ i => gD (Et x.a.c) (a + i)
def pkI (x : CZ2) (a : Nat) (h : Hul) : Nat -> Hul
 | 0 => h
 | k + 1 => bif AJH x a (a + k) then Sy (pkI x a h k) ⟨gLo (sliS x a (a + k)), gHi (sliS x a (a + k))⟩ else pkI x a h k
def pkO (x : CZ2) : Nat -> Hul
 | 0 => zHul
 | a + 1 => bif decide (Z9 x >= pkF x) then pkI x a (pkO x a) (x.a.c.ms.length - a) else pkO x a
def V4 (x : CZ2) : Span × Int := bif decide (x.t < x.f) then (⟨0, 0⟩, 4) else wL (pkO x x.a.c.ms.length)
def W5 (x : CZ2) : Span × Int := bif ER x.a == 0 then V4 x else (⟨0, 0⟩, ER x.a)
def C_Peak : Ctr := { α := CZ2, xs := xCZ2, val := λ x => .tup [.d (IK (W5 x).1), .int (W5 x).2], keep := λ _ => [], pre := λ x => [x.a.c.ms.length < 4611686018427387904 /\ x.a.c.ns.length < 4611686018427387904 /\ x.a.z.length < 4611686018427387904] }
def pkS (x : CZ2) (a : Nat) : List (Nat × AVal) := [(2, .int (pkF x)), (3, .int (Z9 x)), (8, .bptr 202 0), (10, .bptr 208 0), (11, .d (DC (T5 x.a))), (12, .d (DC (Et x.a.c))), (14, .bptr 206 0), (42, .int x.a.c.ms.length), (43, .int a)]
def pkH (x : CZ2) (h : Hul) : List (Nat × HCell) := [(202, .live (.box [.int 0, .int 0])), (206, .live (hlB h)), (208, .live (dkB (KB x.a) 209)), (209, .live (dkM (KB x.a)))]
def pk9 (x : CZ2) : Shape := { α := Nat, dflt := 0, T := λ a => ⟨pkS x a, pkH x (pkO x a)⟩, inv := λ a => a <= x.a.c.ms.length, meas := λ a => x.a.c.ms.length - a, first := [(202, 1016), (206, 8000), (208, 2032), (209, 2033)] }
def pk12 (x : CZ2) (m : Nat) : Shape := { α := IJ, dflt := default, T := λ s => ⟨[(15, .int s.i), (16, .int s.j)] ++ pkS x s.i, pkH x (pkI x s.i (pkO x s.i) (s.j - s.i))⟩, inv := λ s => s.i < x.a.c.ms.length /\ x.a.c.ms.length - s.i = m /\ s.i <= s.j /\ s.j <= x.a.c.ms.length /\ (s.i < s.j -> Z9 x >= pkF x), meas := λ s => x.a.c.ms.length - s.j }
def BIV (x : CZ2) : Ann := { ann 91 [(Ux, C_rdO.spec dCZ), (AID, C_win.spec dDkW), (Vv, C_nar.spec dDkS), (AOL, C_least.spec dN0c), (AVK, C_most.spec dN0c), (hZ, orS (C_grL.spec BTW) (C_grH.spec BQS)), (N7, C_hadd.spec dHuS), (xX, C_who.spec dHu1)] with loops := λ id => if id = 9 then some [pk9 x] else none, inner := λ gs id => if id = 12 then some [pk12 x (gs.getD 0 0)] else none }
def AYP : Ann := ann 91 [(Ux, C_rdX.spec dCZ)]
def BGY (x : CZ2) : Prop := CF Try.prog (BIV x) ACM (AH ACM) (xCZ2 x) (AB []) (.tup [.d (IK (V4 x).1), .int (V4 x).2]) [] [] []
abbrev OZ:=CZ2.a
abbrev X8:=V4
abbrev Hl:=@Exists IJ
abbrev CR:=IJ.i
abbrev EE:=IJ.j
abbrev AJI:=@GE.ge Int Int.instLEInt
abbrev iR:=λ (f : IJ -> Prop) => ∀ (x : IJ), f x
abbrev fG a b:=Hx (pkO a b)
abbrev NL a:=UB (OZ a)
abbrev Ck a:=Jd (OZ a)
abbrev GX a:=IT (OZ a)
abbrev rA a b:=LS a (CR b)
abbrev Pv a b c d e:=pkI a (CR b) (pkO c (CR d)) (rA (EE e) e)
abbrev Oa a b c d e:=Hx (Pv a b c d e)
abbrev Fh a:=GB (OZ a)
abbrev Qo a b:=Rz (Fh a) b
abbrev Jz a:=Aq (Fh a)
abbrev Ah a:=T5 (OZ a)
abbrev Lk a b c:=AX a (EE b) c
abbrev ZZ a b:=EU (EE a) b
abbrev YY a b c:=Lw (rA a b) a c
abbrev Ww a b:=CO (CR a) b
abbrev Jy a b:=NP (CR a) b
abbrev Gk a b:=Jy a (CR b)
abbrev ADR a b c:=Qo a (RX b c)
abbrev ACE a:=rA (XD (EE a)) a
abbrev El a b c:=Oo (ACE a) (λ i=>ADR b (CR c) i)
abbrev SD a:=BE (CR a)
abbrev OU a:=BE (EE a)
abbrev Dg a:=CH (OZ a)
attribute [go_sem] OZ X8 Hl CR EE AJI iR fG NL Ck GX rA Pv Oa Fh Qo Jz Ah Lk ZZ YY Ww Jy Gk ADR ACE El SD OU Dg
theorem BNL (x : CZ2) : (BGY x) = (EG (AJ (Fh x)) (AL (Fh x)) (AM (Fh x)) (AN (Fh x)) (HR (AQ (Fh x)) (OP (OZ x) (NL x)) (SV (OZ x) (Fh x)) (OM (OZ x) (Fh x)) (λ i=>OO i (OZ x) i (Fh x) i i) (MK (OZ x)) (λ i=>MO i (OZ x)) (SG (OZ x)) (IM (Ba (OZ x)))) (EC (JL (CZ2.t x) (CZ2.f x)) (SH (Di (rE (X8 x))) (En (rE (X8 x))) (W7 (X8 x)) 4) (FV (λ i=>And (DT (AS (pkF x) (Ox (CZ2.f x) (-100000001))) (AS (Z9 x) (jN (CZ2.t x) 100000001)) (KU (Ah x) (Gs (OZ x))) (AF (λ j=>PL j (Ah x) (KA (Ah x) j) (Gs (OZ x)))) (KU (Jz x) (Aq (MV (OZ x)))) (AF (λ j=>MX j (Jz x) (Qo x j) (Rz (MV (OZ x)) j))) (ZI (NP (NL x) (EL (Gs (OZ x)))) (BZ i) (AR (Di (fG x i)) (En (fG x i)) (GR (Hs (pkO x i))) (Bm (GX x) (Dg x)) (Ap (GX x) (Dg x)) (Cg (GX x) (Dg x)) (Bd (GX x) (Dg x)) (Ci (GX x) (Dg x)) (PO (Bi (GX x) (Dg x)) (λ j=>XX j (GX x) (BV (Dg x) j) (Dg x) j) (An (GX x) (Dg x)) (λ j=>YG j (GX x) (WC (GX x) j (Dg x) j) j (BD (Dg x) j) (BK (Dg x) j)) (AF (λ j=>Gt j (LI (Ck x) j) (LI (Da (OZ x)) j))) BQ (λ j=>Ax (GX x) j (Dg x) j) (EK (λ j=>Au (Ck x) j (Da (OZ x)) j)) (λ j=>NE (NC (GX x) j) (Dg x) j (NU (GX x) j) (LH (GX x) j)))))) (GZ i (NL x))) (λ i=>OS (GZ i (NL x)) i (NL x) (Hl (λ j=>And (EX (Jy j i) (NP (EE j) i) (AE (pkF x)) (AE (Z9 x)) (NO (Ah x)) (λ k=>XY k (Ah x)) (NO (Jz x)) (AF (λ k=>YT k (Jz x) (BL (Qo x k)) (Qo x k))) (ZI (FS (NL x)) (Jy j i) (UY (BJ (Oa x j x j j) (fG x i)) (AW (Oa x j x j j) (fG x i)) (Qn (Pv x j x j j) (pkO x i)) (GX x) (Ck x)))) (AG (Ww j (NL x)) (YY (NL x) j i) (EU (CR j) (EE j)) (ZZ j (NL x)) (Lk (CR j) j (AJI (Z9 x) (pkF x)))))) (iR (λ j=>TL (AG (Ww j (NL x)) (YY (NL x) j i) (EU (CR j) (EE j)) (ZZ j (NL x)) (Lk (CR j) j (AJI (Z9 x) (pkF x)))) (LJ (JL (OU j) (ZS (Ah x))) (jA (Z9 x) (pkF x))) (GP (Ek (Ah x)) (AF (λ k=>PG k (Ah x) k)) (FS (CR j)) (UR (FS (EE j)) (AE (pkF x)) (AE (Z9 x)) (GX x) (MP (BP (GX x)) (λ k=>BH k (GX x)) (BN (GX x)) (λ k=>BG k (GX x)) (IY (Ck x)) BQ (λ k=>LU (GX x) k) (GT (Ck x)) (AR (FM (GX x)) (AJ (GX x)) (AL (GX x)) (AM (GX x)) (AN (GX x)) (AQ (GX x)) (FI (GX x)) (IA (GX x)) (JY (FJ (GX x)) (λ k=>CQ k (GX x)) (IY (Ck x)) (HP (GX x)) (GT (Ck x)) (λ k=>LN (GX x) k) (BC (KT (KZ (Ah x))) (EU (KZ (Ah x)) 40) (WB (CR j) (SD j) (KZ (Ah x)) (JM (EE j)) (DK (OU j) (KZ (Ah x))))) (CW (Ek (M5 (Af (Ah x)) (SD j) (OU j) (pkF x) (Z9 x))) (λ k=>PG k (M5 (Af (Ah x)) (SD j) (OU j) (pkF x) (Z9 x)) k) (AJ (GX x)) (AL (GX x)) (AM (GX x)) (AN (GX x)) (AQ (GX x)) (BP (GX x)) (PN (GX x) (BN (GX x)) (λ k=>BG k (GX x)) (IY (Ck x)) BQ (NJ (GX x)) (GT (Ck x)) (FM (GX x)) (LX (GX x) (CW (JS (GX x)) (λ k=>NB k (Ck x)) BQ (HP (GX x)) (GT (Ck x)) (SC (GX x)) (ND (KZ (M5 (Af (Ah x)) (SD j) (OU j) (pkF x) (Z9 x))) (GX x)) (WW (GX x)) (SO (GX x)))))))))) (ED (kT (Ya (Kr (GX x) (Ck x)) (Af (M5 (Af (Ah x)) (SD j) (OU j) (pkF x) (Z9 x)))) He) (AG (AD (JM (CR j)) (FY (SD j) (DZ (EE j))) (Cd (DZ (EE j)) (EL (Jz x)))) (OW (El j x j) (ACE j)) (AF (λ k=>NQ k (El j x j) k (ADR x (CR j) k))) (And (OQ (EL (El j x j))) (MJ (EL (El j x j)))) (GU (AD (JM (CR j)) (FY (SD j) (DZ (EE j))) (Cd (DZ (EE j)) (EL (Jz x)))) (OW (El j x j) (ACE j)) (λ k=>NQ k (El j x j) k (ADR x (CR j) k)) (And (OQ (EL (El j x j))) (MJ (EL (El j x j)))) (AE (gLo (El j x j))) (AE (gHi (El j x j))) (TS (Pv x j x j j)) (AV (Oa x j x j j)) (Dx (Pv x j x j j)))) (Hl (λ k=>DW (EX (Gk k j) (BR (EE k) (EE j)) (AE (pkF x)) (AE (Z9 x)) (NO (Ah x)) (λ l=>XY l (Ah x)) (NO (Jz x)) (AF (λ l=>YT l (Jz x) (BL (Qo x l)) (Qo x l))) (ZI (FS (NL x)) (Gk k j) (UY (BJ (Oa x k x k k) (Eu (Pv x j x j j) (Vw (gLo (El j x j)) (gHi (El j x j))))) (AW (Oa x k x k k) (Eu (Pv x j x j j) (Vw (gLo (El j x j)) (gHi (El j x j))))) (CS (Hs (Pv x k x k k))) (GX x) (Ck x)))) (AG (Ww k (NL x)) (YY (NL x) k i) (EU (CR k) (EE k)) (ZZ k (NL x)) (Lk (CR k) k (AJI (Z9 x) (pkF x)))) (NL x) (EE k) (EE j))) (Hl (λ k=>DW (EX (Gk k j) (BR (EE k) (EE j)) (AE (pkF x)) (AE (Z9 x)) (NO (Ah x)) (λ l=>XY l (Ah x)) (NO (Jz x)) (AF (λ l=>YT l (Jz x) (BL (Qo x l)) (Qo x l))) (ZI (FS (NL x)) (Gk k j) (UY (BJ (Oa x k x k k) (Oa x j x j j)) (AW (Oa x k x k k) (Oa x j x j j)) (Qn (Pv x k x k k) (Pv x j x j j)) (GX x) (Ck x)))) (AG (Ww k (NL x)) (YY (NL x) k i) (EU (CR k) (EE k)) (ZZ k (NL x)) (Lk (CR k) k (AJI (Z9 x) (pkF x)))) (NL x) (EE k) (EE j))))) (HA (λ k=>DW (DT (AE (pkF x)) (AE (Z9 x)) (NO (Ah x)) (LW (Ah x)) (NO (Jz x)) (AF (λ l=>YT l (Jz x) (BL (Qo x l)) (Qo x l))) (ZI (FS (NL x)) (BR k (CR j)) (UY (BJ (fG x k) (Oa x j x j j)) (AW (fG x k) (Oa x j x j j)) (Qn (pkO x k) (Pv x j x j j)) (GX x) (Ck x)))) (GZ k (NL x)) (NL x) k i)))) (BC (TS (pkO x i)) (U4 (AV (fG x i)) (Dx (pkO x i)) (TS (pkO x i))) (SH (BJ (rE (X8 x)) (Qi (pkO x i))) (AW (rE (X8 x)) (Qi (pkO x i))) (W7 (X8 x)) (Jq (Bo (pkO x i))))))))) := by kernel_rfl
def AYB (x : CZ2) : Prop := CF Try.prog AYP ACM (AH ACM) (xCZ2 x) (AB []) (.tup [.d (IK zSp), .int (ER x.a)]) [] [] []
theorem BKS (x : CZ2) : (AYB x) = (EG (AJ (Fh x)) (AL (Fh x)) (AM (Fh x)) (AN (Fh x)) (HR (AQ (Fh x)) (OP (OZ x) (NL x)) (SV (OZ x) (Fh x)) (OM (OZ x) (Fh x)) (λ i=>OO i (OZ x) i (Fh x) i i) (MK (OZ x)) (λ i=>MO i (OZ x)) (SG (OZ x)) (UV (Ba (OZ x)))) (Gm (MH (Ba (OZ x))) DJ (AS (Cx (OZ x)) (Ba (OZ x))) (Gm (JL (CZ2.t x) (CZ2.f x)) DJ (AS (Cx (OZ x)) 4) KG))) := by kernel_rfl
theorem BID (l : List Span) (a b x y : Int) : (M5 l a b x y).length = l.length := by unfold M5; rw [cO, cO]
theorem pk1 (x : CZ2) {i j : Nat} (h : Hul) (hij : i <= j) (hw : AJH x i j = true) : pkI x i h (j + 1 - i) = Sy (pkI x i h (j - i)) ⟨gLo (sliS x i j), gHi (sliS x i j)⟩ := by
 rw [show j + 1 - i = (j - i) + 1 by omega]
 show (bif AJH x i (i + (j - i)) then _ else _) = _
 rw [show i + (j - i) = j by omega, hw]; rfl
theorem pk0 (x : CZ2) {i j : Nat} (h : Hul) (hij : i <= j) (hw : AJH x i j = false) : pkI x i h (j + 1 - i) = pkI x i h (j - i) := by
 rw [show j + 1 - i = (j - i) + 1 by omega]
 show (bif AJH x i (i + (j - i)) then _ else _) = _
 rw [show i + (j - i) = j by omega, hw]; rfl
theorem BYG (x : CZ2) (h1 : x.a.c.ms.length < 4611686018427387904 /\ x.a.c.ns.length < 4611686018427387904 /\ x.a.z.length < 4611686018427387904) (c0 : ER x.a = 0) : BGY x := by
 have tl := APZ c0
 have sl := ADS x.a.c
 obtain ⟨_, ⟨n1, n2⟩, _⟩ := OR (xT c0).1
 have wo : ∀ a b : Nat, (Fg (KB x.a) (M5 (T5 x.a) (a : Int) (b : Int) (pkF x) (Z9 x))).all He = AJH x a b := λ _ _ => rfl
 have pf : MY x.f (-100000001) = pkF x := rfl
 have pt : XC x.t 100000001 = Z9 x := rfl
 have so : ∀ a b : Nat, (ME (b + 1 - a) λ i => gD (Et x.a.c) (a + i)) = sliS x a b := λ _ _ => rfl
 rw [BNL]<;> delta JH zU jA Hi BI BF EN MM ON EB EA BY EL AF CN CO AS KA BE XB EU EC JL FY MN NT Ox jN LS ET GW FK HV IB HK GV FU HC DV FW EY LD HA Oo kT LC EP RX QU EK OK GZ AP CJ DN LI GB RU LO Jd Vw Aq Ya kQ Xd Bq Cx Hs Hx rE W7 OZ X8 Hl CR EE AJI iR AD CI AU FT GN AG GK IT AZ AX UB AE FA BM GQ Wq Wr U4 AW JP It BL BD AO AR DD BA VR BK II NC JQ BO BJ CX HI BW BV AJ AQ NU JD AV EH FC Iv YR NH CK AN AL LH GH JE JO HG FX FQ FO Ig MR AM IV FD GX Db HE Xx DK ID DR ES BX CG DO OX BC PI IW HS DX HH JA CE rD CW PM EZ BQ Kq OJ Kb CS XE EV WP EQ rA CU PX MV CH FH Af HQ DZ EW DU Kr LL Rz JB ED HR Fa Fh BR Br GT FZ GI BN UC NB GA GC EO HD VM QR KZ LG IY IM FS QP DY NO PQ MP Ff Bw Ij MU IS MW ND MC UD JM NM Hp EX Jv PO Kx DT OW DJ YT On GU Ah Da GR QV LJ XD VQ BP MQ FJ FI MX EI SK UJ GF OE BH BG IP PR Lw VZ OU HZ IR BZ NL KT DW OQ YM YJ YG LU HY XY NP Qo ZQ ZY MJ EG FV LW XZ CQ GD NE WH Fw KU OM HP YB OP TL HM Bo PL TA XT JF GP RR Ck SD ZZ ADR XW IA LR ZW YY My ACE FM Cd Jy XO WV TS Il Ba NJ MK Po RO LN JS WX WE Dg WB Qc Pv Yx Bz Jz SH NQ Io UR MO OO SV El WW SO SC Ww Gs Dx PG LX Zc Gk ZS Jq JY WC UY OS Lk Eu Bi Tz Bm An ZI Di En Oa Au Ax Ug Ci Qi Ek SG Vq Ap Bd Cg PN XX fG Gt Qn; simp only [CC, eq_self, implies_true, forall_const, CL, Ws, Rp, Lv, lI, APL, BEH]; simp only [tl, sl, wo, BID, pf, pt]
 refine ⟨⟨h1, c0⟩, λ h4 => ?_, λ h4 => ⟨⟨0, ?_, Nat.zero_le _⟩, λ a ha => ⟨λ hlt => ⟨⟨⟨a, a⟩, ?_, by show a < _; omega, rfl, Nat.le_refl _, by show a <= _; omega, λ h => absurd h (Nat.lt_irrefl _)⟩, λ s ⟨s1, s2, s3, s4, s5⟩ => ⟨λ hc => ?_, λ hc => ?_⟩⟩, λ hge => ?_⟩⟩⟩
 ·unfold V4; rw [decide_eq_true h4]; exact ⟨rfl, rfl, rfl⟩
 ·simp; exact ⟨rfl, rfl, rfl⟩
 ·simp [pkI]
 ·have hj : s.j < x.a.c.ms.length := by
   cases hd : decide ((s.j : Int) < x.a.c.ms.length) with
   | false => rw [hd] at hc; cases hc
   | true => have := of_decide_eq_true hd; omega
  have hft : Z9 x >= pkF x := by
   rw [decide_eq_true (show (s.j : Int) < x.a.c.ms.length by omega)] at hc
   exact of_decide_eq_true hc
  have ew : IntKind.i64.wrap ((s.j : Int) + 1) = ((s.j + 1 : Nat) : Int) := HL (by omega)
  simp only [ew, Int.toNat_natCast, so]
  have bound : ∀ i, i < s.j + 1 - s.i -> (gD (sliS x s.i s.j) i).lo = (gD (Et x.a.c) (s.i + i)).lo /\ (gD (sliS x s.i s.j) i).hi = (gD (Et x.a.c) (s.i + i)).hi := λ i hi => by
   unfold sliS; rw [KL _ _ _ hi]; exact ⟨rfl, rfl⟩
  refine ⟨?_, λ hw => ⟨?_, ⟨s.i, s.j + 1⟩, ?_, ⟨s1, s2, by show s.i <= s.j + 1; omega, by show s.j + 1 <= _; omega, λ _ => hft⟩, by show x.a.c.ms.length - (s.j + 1) < _; omega⟩, λ hw => ⟨⟨s.i, s.j + 1⟩, ?_, ⟨s1, s2, by show s.i <= s.j + 1; omega, by show s.j + 1 <= _; omega, λ _ => hft⟩, by show x.a.c.ms.length - (s.j + 1) < _; omega⟩⟩
  ·simp; omega
  ·refine ⟨⟨by omega, by omega, by omega⟩, bound, ⟨by omega, by omega⟩, ⟨by omega, by omega, by omega⟩, bound, by omega, by omega⟩
  ·have e := pk1 x (pkO x s.i) s3 hw
   simp only [e]; simp; rfl
  ·have e := pk0 x (pkO x s.i) s3 hw
   simp only [e]; simp
 ·have e : pkO x (s.i + 1) = pkI x s.i (pkO x s.i) (s.j - s.i) := by
   show (bif decide (Z9 x >= pkF x) then _ else _) = _
   by_cases hft : Z9 x >= pkF x
   ·rw [decide_eq_true hft] at hc ⊢
    have hj : s.j = x.a.c.ms.length := by
     cases hd : decide ((s.j : Int) < x.a.c.ms.length) with
     | true => rw [hd] at hc; cases hc
     | false => have := of_decide_eq_false hd; omega
    rw [hj]; rfl
   ·rw [decide_eq_false hft]
    have : s.j = s.i := by
     rcases Nat.lt_or_ge s.i s.j with h | h
     ·exact absurd (s5 h) hft
     ·omega
    rw [this, Nat.sub_self]; rfl
  refine ⟨s.i + 1, ⟨(HL (by omega)).symm, ?_, ?_, ?_⟩, by omega, by omega⟩ <;> rw [e]
 ·obtain rfl : a = x.a.c.ms.length := by omega
  unfold V4; rw [decide_eq_false h4]; exact ⟨rfl, rfl, rfl⟩
theorem BOD : AK Try.prog AWU (C_Peak.spec dCZ2) := okT C_Peak (λ (x : CZ2) h => by
 have h1 : x.a.c.ms.length < 4611686018427387904 /\ x.a.c.ns.length < 4611686018427387904 /\ x.a.z.length < 4611686018427387904 := h
 by_cases c0 : ER x.a = 0
 ·have e : C_Peak.val x = .tup [.d (IK (V4 x).1), .int (V4 x).2] := by
   show AVal.tup [.d (IK (W5 x).1), .int (W5 x).2] = _
   unfold W5; rw [c0]; rfl
  rw [e]
  exact Pn (A := BIV x) (L := []) (keep := []) (ren := []) (fz := []) AXV (by kernel_rfl) (AA ANE (AA BUL (AA AVG (AA BDQ (AA BLQ (AA (BFT BXL BXR) (AA ALW (AA AUN AC)))))))) (BYG x h1 c0)
 ·have c0' : (ER x.a == 0) = false := by simpa using c0
  have e : C_Peak.val x = .tup [.d (IK zSp), .int (ER x.a)] := by
   show AVal.tup [.d (IK (W5 x).1), .int (W5 x).2] = _
   unfold W5; rw [c0']; rfl
  rw [e]
  refine Pn (A := AYP) (L := []) (keep := []) (ren := []) (fz := []) AXV (by kernel_rfl) (AA ALB AC) ?_
  show AYB x; rw [BKS]<;> delta BI BF EN EB EA BY AF CN CO AS XB EC JL ET GW FK HV IB HK GV FU HC DV FW EY LD SI KG CJ DN GB RU LO Lc Bq Cx OZ AD CI AU FT GN AG GK AZ AX UB AE FA YO AW It BL BD AO AR DD BA VR BK JQ BO BJ CX BW BV AJ AQ AV Iv YR CK AN AL FO Ig AM ES CG PM EZ Kb EV EQ MV FH EW DU LL HR Fh Br FZ GI UC GA GC QR QP DY Ij MW UD Kx DJ SK GF NL EG OM OP RR MH XW XO WV Ba MK RO WX WE Gm MO OO SV UV SG; simp only [CC, eq_self, implies_true, forall_const, CL, Lv]
  exact ⟨⟨h1, c0⟩, λ h => by simp [c0] at h⟩) _
end Go.Bal
