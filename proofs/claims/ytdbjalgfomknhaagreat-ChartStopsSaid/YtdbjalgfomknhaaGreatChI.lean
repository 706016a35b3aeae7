/- Package chart: stages at a time, from a time to another one, and when one is reached. -/
import Derived.Test.YtdbjalgfomknhaaGreatChH
set_option linter.unusedVariables false
set_option linter.unusedSimpArgs false
namespace Go.Bal
open Go Go.Sym Go.Proofs
def zHul : Hul := ⟨⟨0, 0⟩, false⟩
structure CZI where
 a : CZ
 t : Int
def dCZI : List AVal -> Heap -> Option (CZI × List (Nat × Nat) × List Nat)
 | [x, y, .d t], H => match kV x H, ACO y H with
  | some (c, f), some (l, e) => some (⟨⟨c, l⟩, HJ t⟩, [], f ++ e)
  | _, _ => none
 | _, _ => none
def xCZI (x : CZI) : List AVal := [.d (Ak x.a.c), .d (PH x.a.z), .int x.t]
def T5 (a : CZ) : List Span := (IL (KB a)).1
theorem APL (h : Hul) : Hul.mk h.s h.m = h := rfl
theorem BEH (a : CZ) : (IL (KB a)).1 = T5 a := rfl
theorem APZ {a : CZ} (h : ER a = 0) : (T5 a).length = a.c.ms.length := by
 have h3 := (xT h).2.2
 unfold T5
 unfold IL at h3 ⊢
 rw [Rp] at h3 ⊢
 cases hs : Hq a.c with
 | false => rw [hs] at h3; cases h3
 | true => show (Fg _ _).length = _; unfold Fg; rw [rng_length, YU]
theorem ADS (c : Cht) : (Et c).length = c.ms.length := rng_length _ _
def hul1 (a : CZ) (t : Int) : Nat -> Hul
 | 0 => zHul
 | k + 1 => bif TD t (gD (T5 a) k).lo (gD (T5 a) k).hi then Sy (hul1 a t k) (gD (Et a.c) k) else hul1 a t k
def AKN (a : CZ) (t : Int) (g : Nat) : Bool := (Fg (KB a) (parL (T5 a) ((g : Int) + 1) (wr (t - 1)) (wr (t + 1)))).all He
def hul2 (a : CZ) (t : Int) : Nat -> Hul
 | 0 => hul1 a t a.c.ms.length
 | g + 1 => bif AKN a t g then Sy (Sy (hul2 a t g) (gD (Et a.c) g)) (gD (Et a.c) (g + 1)) else hul2 a t g
def tV (x : CZI) : Hul := bif TD x.t (-100000000) 100000000 then hul2 x.a x.t (x.a.c.ms.length - 1) else hul1 x.a x.t x.a.c.ms.length
def kA (x : CZI) : Span × Int := bif ER x.a == 0 then wL (tV x) else (⟨0, 0⟩, ER x.a)
def C_Stage : Ctr := { α := CZI, xs := xCZI, val := λ x => .tup [.d (IK (kA x).1), .int (kA x).2], keep := λ _ => [], pre := λ x => [x.a.c.ms.length < 4611686018427387904 /\ x.a.c.ns.length < 4611686018427387904 /\ x.a.z.length < 4611686018427387904] }
def sgH (x : CZI) (h : Hul) : List (Nat × HCell) := [(201, .live (.box [.int x.t])), (202, .live (.box [.int 0, .int 0])), (203, .live (.box [.bptr 208 0])), (204, .live (.box [.d (DC (T5 x.a))])), (205, .live (.box [.d (DC (Et x.a.c))])), (206, .live (hlB h)), (207, .live (.box [.fn (.func N7) [.bptr 206 0] []])), (208, .live (dkB (KB x.a) 209)), (209, .live (dkM (KB x.a)))]
def sg7 (x : CZI) : Shape := { α := Nat, dflt := 0, T := λ k => ⟨[(5, .bptr 201 0), (6, .bptr 202 0), (8, .bptr 203 0), (9, .bptr 204 0), (10, .bptr 205 0), (12, .bptr 206 0), (13, .bptr 207 0), (32, .int x.a.c.ms.length), (33, .int k)], sgH x (hul1 x.a x.t k)⟩, inv := λ k => k <= x.a.c.ms.length, meas := λ k => x.a.c.ms.length - k, first := [(201, 1016), (202, 1032), (203, 2128), (204, 2144), (205, 2160), (206, 5000), (207, 6016), (208, 2032), (209, 2033)] }
def sg1 (x : CZI) (l : Nat) : Shape := { α := Nat, dflt := 0, T := λ g => ⟨[(0, .fn (.yield l) [] []), (1, .bptr 14016 0), (12, .int (wr ((x.a.c.ms.length : Int) - 1))), (13, .int g)], sgH x (hul2 x.a x.t g) ++ [(14016, .live (.box [.bptr 208 0]))]⟩, inv := λ g => g <= x.a.c.ms.length - 1, meas := λ g => 50 - g }
noncomputable def itSg (x : CZI) : IterAnn := { fn := zB, code := AH zB, live := [5, 6, 8, 9, 10, 12, 13], ann := { base := λ id => 100000 + 1000 * (id + 1), Γ := Sym.look [], E := [201, 202, 203, 204, 205, 206, 207, 208, 209, 14016], n := 66, inner := λ gs id => if id = 1 then some [sg1 x (gs.getD 0 0)] else none } }
noncomputable def AZM (x : CZI) : Ann := { ann 92 [(Ux, C_rdO.spec dCZ), (n_in, s_in), (N7, C_hadd.spec dHuS), (AOM, C_gaps.spec T1), (zL, C_part.spec dDkQ), (Vv, C_nar.spec dDkS), (xX, C_who.spec dHu1)] with iter := λ g => if g = mW then some (itSg x) else none, loops := λ id => if id = 7 then some [sg7 x] else none }
def ARN : Ann := ann 92 [(Ux, C_rdX.spec dCZ)]
def AYJ (x : CZI) : Prop := CF Try.prog (AZM x) yI (AH yI) (xCZI x) (AB []) (.tup [.d (IK (wL (tV x)).1), .int (wL (tV x)).2]) [] [] []
abbrev HN:=CZI.a
abbrev TF:=CZI.t
abbrev Bo a:=Hul.mk (Hx a) (Hs a)
abbrev ZJ a b:=hul1 (HN a) (TF a) b
abbrev Qi a:=Il (Bo a)
abbrev U4 a b c:=Wr a b c b
abbrev Kc a b:=Hx (ZJ a b)
abbrev OD a b:=hul2 (HN a) (TF a) b
abbrev YH a b:=Hx (OD a b)
abbrev MG a:=UB (HN a)
abbrev ZI a b c:=Wq a b DJ c
abbrev QK a:=Jd (HN a)
abbrev BB a:=IT (HN a)
abbrev Qn a b:=JH (Hs a) (Hs b)
abbrev MZ a:=GB (HN a)
abbrev OY a b:=Rz (MZ a) b
abbrev Bj a b:=BL (OY a b)
abbrev QZ a:=Aq (MZ a)
abbrev Ri a:=NO (QZ a)
abbrev OC a:=T5 (HN a)
abbrev Qk a:=LW (OC a)
abbrev Qa a:=NO (OC a)
abbrev Iz a:=AE (TF a)
abbrev Zu a:=Ep a 1
abbrev Eu a b:=Yx (Bo a) b
abbrev Px a:=GT (QK a)
abbrev Uy a b:=GZ a (MG b)
abbrev AFQ a b c:=CE a b c b
abbrev Dv a:=CH (HN a)
abbrev NP a b:=HH a (BE b)
abbrev Mb a:=Ba (HN a)
attribute [go_sem] HN TF Bo ZJ Qi U4 Kc OD YH MG ZI QK BB Qn MZ OY Bj QZ Ri OC Qk Qa Iz Zu Eu Px Uy AFQ Dv NP Mb
theorem BHS (x : CZI) : (AYJ x) = (GG (AG (AJ (MZ x)) (AL (MZ x)) (AM (MZ x)) (AN (MZ x)) (HR (AQ (MZ x)) (OP (HN x) (MG x)) (SV (HN x) (MZ x)) (OM (HN x) (MZ x)) (λ i=>OO i (HN x) i (MZ x) i i) (MK (HN x)) (λ i=>MO i (HN x)) (SG (HN x)) (IM (Mb x)))) (HA (λ i=>BC (NP (MG x) (EL (Gs (HN x)))) (ZI (BZ i) (Iz x) (Be (KU (OC x) (Gs (HN x))) (AF (λ j=>PL j (OC x) (KA (OC x) j) (Gs (HN x)))) (KU (QZ x) (Aq (MV (HN x)))) (λ j=>MX j (QZ x) (OY x j) (Rz (MV (HN x)) j)) (AR (Di (Kc x i)) (En (Kc x i)) (GR (Hs (ZJ x i))) (Bm (BB x) (Dv x)) (Ap (BB x) (Dv x)) (Cg (BB x) (Dv x)) (Bd (BB x) (Dv x)) (Ci (BB x) (Dv x)) (PO (Bi (BB x) (Dv x)) (λ j=>XX j (BB x) (BV (Dv x) j) (Dv x) j) (An (BB x) (Dv x)) (λ j=>YG j (BB x) (WC (BB x) j (Dv x) j) j (BD (Dv x) j) (BK (Dv x) j)) (AF (λ j=>Gt j (LI (QK x) j) (LI (Da (HN x)) j))) BQ (λ j=>Ax (BB x) j (Dv x) j) (EK (λ j=>Au (QK x) j (Da (HN x)) j)) (λ j=>NE (NC (BB x) j) (Dv x) j (NU (BB x) j) (LH (BB x) j)))))) (Uy i x))) (λ i=>OS (Uy i x) i (MG x) (AFQ (JM i) (DK (BE i) (EL (OC x))) (JM i)) (ED (TD (TF x) (ZC (OC x) i) (Ac (OC x) i)) (FF i (EL (QZ x)) (AG (Bj x i) (AV (OY x i)) (TS (ZJ x i)) (AV (Kc x i)) (Dx (ZJ x i)))) (HA (λ j=>GM (FS (MG x)) (ZI (BR j i) (Iz x) (Be (Qa x) (Qk x) (Ri x) (λ k=>YT k (QZ x) (Bj x k) (OY x k)) (UY (BJ (Kc x j) (Eu (ZJ x i) (OY x i))) (AW (Kc x j) (Eu (ZJ x i) (OY x i))) (CS (Hs (ZJ x j))) (BB x) (QK x)))) (Uy j x) (MG x) j i)) (HA (λ j=>GM (FS (MG x)) (ZI (BR j i) (Iz x) (Be (Qa x) (Qk x) (Ri x) (λ k=>YT k (QZ x) (Bj x k) (OY x k)) (UY (BJ (Kc x j) (Kc x i)) (AW (Kc x j) (Kc x i)) (Qn (ZJ x j) (ZJ x i)) (BB x) (QK x)))) (Uy j x) (MG x) j i))) (EC (TD (TF x) (-100000000) 100000000) (GP (AJ (BB x)) (AL (BB x)) (AM (BB x)) (CG (AN (BB x)) (AQ (BB x)) (BP (BB x)) (HM (BB x)) (BN (BB x)) (FN (BB x)) (λ j=>NB j (QK x)) BQ (UR (NJ (BB x)) (Px x) (FM (BB x)) (BB x) (PO (FI (BB x)) (λ j=>GD j (BB x)) (FJ (BB x)) (λ j=>CQ j (BB x)) (IY (QK x)) BQ (λ j=>XZ (BB x) j) (Px x) (λ j=>LN (BB x) j)))) (AF (λ j=>FV (λ k=>IN (Nl j) (Dt (wr (Zu (BE (MG x)))) (KF (BB x))) (ZI (BZ k) (Iz x) (Be (Qa x) (Qk x) (Ri x) (λ l=>YT l (QZ x) (Bj x l) (OY x l)) (UY (BJ (YH x k) (Kc x i)) (AW (YH x k) (Kc x i)) (Qn (OD x k) (ZJ x i)) (BB x) (QK x)))) (GZ k (Fi (MG x)))) (λ k=>JF (GZ k (Fi (MG x))) k (wr (Zu (BE (MG x)))) (Ei (DZ k) (AU (BB x)) (JM k) (BE k)) (TH k k 40 (JX k 40) (EC (LI (QK x) k) (AD (BM j) (HU (Ek (OC x)) (λ l=>PG l (OC x) l) (UR (AE (DZ k)) (AE (LZ (TF x))) (AE (DO (TF x))) (BB x) (MP (BP (BB x)) (λ l=>BH l (BB x)) (BN (BB x)) (λ l=>BG l (BB x)) (IY (QK x)) BQ (λ l=>LU (BB x) l) (Px x) (AR (FM (BB x)) (AJ (BB x)) (AL (BB x)) (AM (BB x)) (AN (BB x)) (AQ (BB x)) (FI (BB x)) (IA (BB x)) (JY (FJ (BB x)) (λ l=>CQ l (BB x)) (IY (QK x)) (HP (BB x)) (Px x) (λ l=>LN (BB x) l) (CE (KT (KZ (OC x))) (EU (KZ (OC x)) 40) (BX (DZ k)) (Cd (DZ k) (KZ (OC x)))) (CW (Ek (Rb (OC x) (DZ k) (TF x) (DO (TF x)))) (λ l=>PG l (Rb (OC x) (DZ k) (TF x) (DO (TF x))) l) (AJ (BB x)) (AL (BB x)) (AM (BB x)) (AN (BB x)) (AQ (BB x)) (BP (BB x)) (PN (BB x) (BN (BB x)) (λ l=>BG l (BB x)) (IY (QK x)) BQ (NJ (BB x)) (Px x) (FM (BB x)) (LX (BB x) (CW (JS (BB x)) (λ l=>NB l (QK x)) BQ (HP (BB x)) (Px x) (SC (BB x)) (ND (KZ (Rb (OC x) (DZ k) (TF x) (DO (TF x)))) (BB x)) (WW (BB x)) (SO (BB x))))))))))) (NG (kT (Ya (Kr (BB x) (QK x)) (Af (Rb (OC x) (DZ k) (TF x) (DO (TF x))))) He) (AD (FF k (EL (QZ x)) (AG (Bj x k) (AV (OY x k)) (TS (OD x k)) (AV (YH x k)) (Dx (OD x k)))) (KQ (DZ k) (EL (QZ x)) (AG (Bj x (XD k)) (AV (OY x (XD k))) (TS (Sy (Bo (OD x k)) (OY x k))) (AV (Eu (OD x k) (OY x k))) KS)) (HA (λ l=>DW (AD (Nl j) (AE (wr (Zu (BE (MG x))))) (ZI (BR l k) (Iz x) (Be (Qa x) (Qk x) (Ri x) (λ m=>YT m (QZ x) (Bj x m) (OY x m)) (UY (BJ (YH x l) (Eu (Sy (Bo (OD x k)) (OY x k)) (OY x (XD k)))) (AW (YH x l) (Eu (Sy (Bo (OD x k)) (OY x k)) (OY x (XD k)))) (CS (Hs (OD x l))) (BB x) (QK x))))) (GZ l (Fi (MG x))) 50 l k))) (λ l=>DW (AD (Nl j) (AE (wr (Zu (BE (MG x))))) (ZI (BR l k) (Iz x) (Be (Qa x) (Qk x) (Ri x) (λ m=>YT m (QZ x) (Bj x m) (OY x m)) (UY (BJ (YH x l) (YH x k)) (AW (YH x l) (YH x k)) (Qn (OD x l) (OD x k)) (BB x) (QK x))))) (GZ l (Fi (MG x))) 50 l k))) (AD (BM j) (HU (Ek (OC x)) (λ l=>PG l (OC x) l) (UR (AE (DZ k)) (AE (LZ (TF x))) (AE (DO (TF x))) (BB x) (MP (BP (BB x)) (λ l=>BH l (BB x)) (BN (BB x)) (λ l=>BG l (BB x)) (IY (QK x)) BQ (λ l=>LU (BB x) l) (Px x) (AR (FM (BB x)) (AJ (BB x)) (AL (BB x)) (AM (BB x)) (AN (BB x)) (AQ (BB x)) (FI (BB x)) (IA (BB x)) (JY (FJ (BB x)) (λ l=>CQ l (BB x)) (IY (QK x)) (HP (BB x)) (Px x) (λ l=>LN (BB x) l) (CE (KT (KZ (OC x))) (EU (KZ (OC x)) 40) (BX (DZ k)) (Cd (DZ k) (KZ (OC x)))) (CW (Ek (Rb (OC x) (DZ k) (TF x) (DO (TF x)))) (λ l=>PG l (Rb (OC x) (DZ k) (TF x) (DO (TF x))) l) (AJ (BB x)) (AL (BB x)) (AM (BB x)) (AN (BB x)) (AQ (BB x)) (BP (BB x)) (PN (BB x) (BN (BB x)) (λ l=>BG l (BB x)) (IY (QK x)) BQ (NJ (BB x)) (Px x) (FM (BB x)) (LX (BB x) (CW (JS (BB x)) (λ l=>NB l (QK x)) BQ (HP (BB x)) (Px x) (SC (BB x)) (ND (KZ (Rb (OC x) (DZ k) (TF x) (DO (TF x)))) (BB x)) (WW (BB x)) (SO (BB x))))))))))) (NG (kT (Ya (Kr (BB x) (QK x)) (Af (Rb (OC x) (DZ k) (TF x) (DO (TF x))))) He) (AD (FF k (EL (QZ x)) (AG (Bj x k) (AV (OY x k)) (TS (OD x k)) (AV (YH x k)) (Dx (OD x k)))) (KQ (DZ k) (EL (QZ x)) (AG (Bj x (XD k)) (AV (OY x (XD k))) (TS (Sy (Bo (OD x k)) (OY x k))) (AV (Eu (OD x k) (OY x k))) KS)) (HA (λ l=>DW (AD (Nl j) (AE (wr (Zu (BE (MG x))))) (ZI (BR l k) (Iz x) (Be (Qa x) (Qk x) (Ri x) (λ m=>YT m (QZ x) (Bj x m) (OY x m)) (UY (BJ (YH x l) (Eu (Sy (Bo (OD x k)) (OY x k)) (OY x (XD k)))) (AW (YH x l) (Eu (Sy (Bo (OD x k)) (OY x k)) (OY x (XD k)))) (CS (Hs (OD x l))) (BB x) (QK x))))) (GZ l (Fi (MG x))) 50 l k))) (λ l=>DW (AD (Nl j) (AE (wr (Zu (BE (MG x))))) (ZI (BR l k) (Iz x) (Be (Qa x) (Qk x) (Ri x) (λ m=>YT m (QZ x) (Bj x m) (OY x m)) (UY (BJ (YH x l) (YH x k)) (AW (YH x l) (YH x k)) (Qn (OD x l) (OD x k)) (BB x) (QK x))))) (GZ l (Fi (MG x))) 50 l k))))) (BC (TS (OD x k)) (U4 (AV (YH x k)) (Dx (OD x k)) (TS (OD x k))) (SH (BJ (Il (tV x)) (Qi (OD x k))) (AW (Il (tV x)) (Qi (OD x k))) (Jq (tV x)) (Jq (Bo (OD x k))))))))) (BC (TS (ZJ x i)) (U4 (AV (Kc x i)) (Dx (ZJ x i)) (TS (ZJ x i))) (SH (BJ (Il (tV x)) (Qi (ZJ x i))) (AW (Il (tV x)) (Qi (ZJ x i))) (Jq (tV x)) (Jq (Bo (ZJ x i)))))))) := by kernel_rfl
def ATC (x : CZI) : Prop := CF Try.prog ARN yI (AH yI) (xCZI x) (AB []) (.tup [.d (IK zSp), .int (ER x.a)]) [] [] []
theorem BBA (x : CZI) : (ATC x) = (EG (AJ (MZ x)) (AL (MZ x)) (AM (MZ x)) (AN (MZ x)) (HR (AQ (MZ x)) (OP (HN x) (MG x)) (SV (HN x) (MZ x)) (OM (HN x) (MZ x)) (λ i=>OO i (HN x) i (MZ x) i i) (MK (HN x)) (λ i=>MO i (HN x)) (SG (HN x)) (UV (Mb x))) (Gm (MH (Mb x)) DJ (AS (Cx (HN x)) (Mb x)) KG)) := by kernel_rfl
theorem BPB (x : CZI) (h1 : x.a.c.ms.length < 4611686018427387904 /\ x.a.c.ns.length < 4611686018427387904 /\ x.a.z.length < 4611686018427387904) (c0 : ER x.a = 0) : AYJ x := by
 have tl := APZ c0
 have sl := ADS x.a.c
 have hl := OR (xT c0).1
 obtain ⟨_, ⟨n1, n2⟩, _⟩ := hl
 have w1 : wr ((x.a.c.ms.length : Int) - 1) = ((x.a.c.ms.length - 1 : Nat) : Int) := by unfold wr; rw [TC (by omega) (by omega)]; omega
 have w2 : IntKind.i64.wrap ((x.a.c.ms.length : Int) - 1) = ((x.a.c.ms.length - 1 : Nat) : Int) := w1
 have po : ∀ g : Nat, (Fg (KB x.a) (parL (T5 x.a) ((g : Int) + 1) (IntKind.i64.wrap (x.t - 1)) (IntKind.i64.wrap (x.t + 1)))).all He = AKN x.a x.t g := λ _ => rfl
 rw [BHS]<;> delta JH Hi BI BF EN MM ON Ep EB EA BY EL AF CN CO AS KA BE XB EU EC JL FY MN NT LS ET GW FK HV IB HK GV FU HC DV FW EY LD HA Oo kT LC EP QU EK OK GZ AP CJ DN LI GB RU LO Jd Aq Ya kQ Xd Bq Cx Hs Hx rE W7 HN TF AD CI AU FT GN AG GK IT AZ AX UB AE FA BM GQ Wq Wr U4 AW JP It BL BD AO AR DD BA VR BK II NC JQ BO BJ CX HI BW BV AJ AQ NU JD AV EH FC Iv YR NH CK AN AL BB LH GH JE JO HG FX FQ FO Ig MR AM IV FD Db HE Xx DK ID DR GO ES BX CG DO OX BC PI IW HS DX HH JA CE rD CW PM EZ BQ Kq MZ OJ Kb CS XE EV WP LZ EQ AFQ CU PX MV CH FH Af HQ DZ KF EW DU Kr LL Rz JB ED HR Fa BR OC Br GT FZ GI BN UC NB GA GC EO HD VM QR KZ LG IY IM FS QP DY NO PQ MP Ff Bw Ij MU IS MW ND MC UD JM NM Hp Jv PO RV Kx OW DJ YT On GU Da GR QV Fi XD VQ OY BP MQ FJ FI MX EI SK UJ GF OE BH BG IP PR VZ HZ IR BZ JX KT DW YM YJ OD YG LU HY XY NP GG GM ZQ TK ZY FV LW ZJ XZ CQ GD NE MG IN QZ WH Fw KU OM HP QK YB OP KS HM Bo FF PL TA XT JF GP RR FN XW Zu R6 IA SP KQ LR ZW My FM HU Cd XO WV TS Il Ba NJ MK Po RO LN JS WX WE WB Rb Qc Dv NG Yx Bz SH Io Ei UR MO OO SV Kc WW SO SC Ac Gs Dx PG LX ZC Zc Bj YH Dt Iz Jq JY WC UY OS Eu Bi Mb Tz TH Bm An Nl ZI Di En Au Ax Ug Ci Uy Qi Ri Ek SG Vq Ap Bd Qk Cg Qa PN XX Be Gt Px Qn; simp only [CC, eq_self, implies_true, forall_const, CL, Ws, Rp, Lv, lI, APL, BEH]; simp only [tl, sl, w1, w2, cO]
 have e1 : ∀ k, TD x.t (gD (T5 x.a) k).lo (gD (T5 x.a) k).hi = true -> hul1 x.a x.t (k + 1) = Sy (hul1 x.a x.t k) (gD (Et x.a.c) k) := λ k h => by
  show (bif TD x.t (gD (T5 x.a) k).lo (gD (T5 x.a) k).hi then _ else _) = _; rw [h]; rfl
 have e0 : ∀ k, TD x.t (gD (T5 x.a) k).lo (gD (T5 x.a) k).hi = false -> hul1 x.a x.t (k + 1) = hul1 x.a x.t k := λ k h => by
  show (bif TD x.t (gD (T5 x.a) k).lo (gD (T5 x.a) k).hi then _ else _) = _; rw [h]; rfl
 have f1 : ∀ g, AKN x.a x.t g = true -> hul2 x.a x.t (g + 1) = Sy (Sy (hul2 x.a x.t g) (gD (Et x.a.c) g)) (gD (Et x.a.c) (g + 1)) := λ g h => by
  show (bif AKN x.a x.t g then _ else _) = _; rw [h]; rfl
 have f0 : ∀ g, AKN x.a x.t g = false -> hul2 x.a x.t (g + 1) = hul2 x.a x.t g := λ g h => by
  show (bif AKN x.a x.t g then _ else _) = _; rw [h]; rfl
 refine ⟨⟨h1, c0⟩, ⟨0, ⟨trivial, rfl, rfl, rfl, rfl⟩, Nat.zero_le _⟩, λ k hk => ⟨λ hlt => ⟨by omega, λ hin => ⟨by omega, k + 1, ⟨(HL (by omega)).symm, ?_, ?_, ?_⟩, by omega, by omega⟩, λ hin => ⟨k + 1, ⟨(HL (by omega)).symm, ?_, ?_, ?_⟩, by omega, by omega⟩⟩, λ hge => ⟨λ ht => ⟨⟨0, ⟨trivial, rfl, ?_, ?_, ?_⟩, Nat.zero_le _⟩, λ g hg => ⟨λ hlt => ?_, λ hgg => ?_⟩⟩, λ ht => ?_⟩⟩⟩
 ·rw [e1 k hin]
 ·rw [e1 k hin]
 ·rw [e1 k hin]; rfl
 ·rw [e0 k hin]
 ·rw [e0 k hin]
 ·rw [e0 k hin]
 ·obtain rfl : k = x.a.c.ms.length := by omega
  rfl
 ·obtain rfl : k = x.a.c.ms.length := by omega
  rfl
 ·obtain rfl : k = x.a.c.ms.length := by omega
  rfl
 ·have hlt : g < x.a.c.ms.length - 1 := by omega
  have ew : IntKind.i64.wrap ((g : Int) + 1) = (g : Int) + 1 := by rw [HL (by omega)]; rfl
  have tn : ((g : Int) + 1).toNat = g + 1 := by omega
  have ec : ((g + 1 : Nat) : Int) = (g : Int) + 1 := rfl
  simp only [ew, tn, po]
  have body : ((((0 : Nat) < x.a.c.ms.length /\ x.a.c.ms.length <= 40) /\ 0 <= (g : Int) + 1 /\ (g : Int) + 1 <= x.a.c.ms.length)) := ⟨⟨by omega, by omega⟩, by omega, by omega⟩
  refine ⟨⟨⟨by omega, by omega⟩, by omega, by omega⟩, ⟨by omega, by omega⟩, by omega, λ _ => ?_, λ _ => ?_⟩ <;>
  ·refine ⟨⟨body, trivial, by omega, n2⟩, λ h => ⟨⟨by omega, by omega⟩, ⟨by omega, by omega⟩, g + 1, ⟨ec, ?_, ?_, ?_⟩, by omega, by omega⟩, λ h => ⟨g + 1, ⟨ec, ?_, ?_, ?_⟩, by omega, by omega⟩⟩
   ·rw [f1 g h]
   ·rw [f1 g h]
   ·rw [f1 g h]; rfl
   ·rw [f0 g h]
   ·rw [f0 g h]
   ·rw [f0 g h]
 ·obtain rfl : g = x.a.c.ms.length - 1 := by omega
  have : tV x = hul2 x.a x.t (x.a.c.ms.length - 1) := by unfold tV; rw [ht]; rfl
  rw [this]; exact ⟨rfl, rfl, rfl⟩
 ·obtain rfl : k = x.a.c.ms.length := by omega
  have : tV x = hul1 x.a x.t x.a.c.ms.length := by unfold tV; rw [ht]; rfl
  rw [this]; exact ⟨rfl, rfl, rfl⟩
def qK (x : CZI) : Nat -> Hul × Bool
 | 0 => (zHul, false)
 | k + 1 => bif (qK x k).2 then qK x k else bif decide ((gD (Et x.a.c) k).hi >= x.t) then (Sy (qK x k).1 (gD (T5 x.a) k), decide ((gD (Et x.a.c) k).lo >= x.t)) else qK x k
structure FsR where
 s : Span
 b : Bool
 e : Int
def fsV (x : CZI) : FsR := ⟨(wL (qK x x.a.c.ms.length).1).1, bif (qK x x.a.c.ms.length).2 then (wL (qK x x.a.c.ms.length).1).2 == 0 else false, (wL (qK x x.a.c.ms.length).1).2⟩
def Xe (x : CZI) : FsR := bif ER x.a == 0 then fsV x else ⟨⟨0, 0⟩, false, ER x.a⟩
def C_First : Ctr := { α := CZI, xs := xCZI, val := λ x => .tup [.d (IK (Xe x).s), .bool (Xe x).b, .int (Xe x).e], keep := λ _ => [], pre := λ x => [x.a.c.ms.length < 4611686018427387904 /\ x.a.c.ns.length < 4611686018427387904 /\ x.a.z.length < 4611686018427387904] }
def fs7 (x : CZI) : Shape := { α := Nat, dflt := 0, T := λ k => ⟨[(2, .int x.t), (6, .bptr 202 0), (10, .d (DC (T5 x.a))), (11, .d (DC (Et x.a.c))), (13, .bptr 206 0), (14, .bool (qK x k).2), (15, .int k)], [(202, .live (.box [.int 0, .int 0])), (206, .live (hlB (qK x k).1))]⟩, inv := λ k => k <= x.a.c.ms.length, meas := λ k => x.a.c.ms.length - k, first := [(202, 1016), (206, 5000)] }
def AZD (x : CZI) : Ann := { ann 69 [(Ux, C_rdO.spec dCZ), (N7, C_hadd.spec dHuS), (xX, C_who.spec dHu1)] with loops := λ id => if id = 7 then some [fs7 x] else none }
def ARP : Ann := ann 69 [(Ux, C_rdX.spec dCZ)]
def AZV (x : CZI) : Prop := CF Try.prog (AZD x) wW (AH wW) (xCZI x) (AB []) (.tup [.d (IK (fsV x).s), .bool (fsV x).b, .int (fsV x).e]) [] [] []
abbrev V9:=@Prod.snd Hul Bool
abbrev Ab a b:=(@Prod.fst Hul Bool) (qK a b)
abbrev Qd a b:=Hx (Ab a b)
attribute [go_sem] V9 Ab Qd
theorem BFP (x : CZI) : (AZV x) = (GG (AG (AJ (MZ x)) (AL (MZ x)) (AM (MZ x)) (AN (MZ x)) (HR (AQ (MZ x)) (OP (HN x) (MG x)) (SV (HN x) (MZ x)) (OM (HN x) (MZ x)) (λ i=>OO i (HN x) i (MZ x) i i) (MK (HN x)) (λ i=>MO i (HN x)) (SG (HN x)) (IM (Mb x)))) (HA (λ i=>BC (Iz x) (DT (KU (OC x) (Gs (HN x))) (AF (λ j=>PL j (OC x) (KA (OC x) j) (Gs (HN x)))) (KU (QZ x) (Aq (MV (HN x)))) (AF (λ j=>MX j (QZ x) (OY x j) (Rz (MV (HN x)) j))) (GR (V9 (qK x i))) (BZ i) (Sa DJ (Di (Qd x i)) (En (Qd x i)) (GR (Hs (Ab x i))))) (Uy i x))) (λ i=>TL (Uy i x) (LJ (JL (BE i) (ZS (OC x))) (not (V9 (qK x i)))) (FF i (EL (QZ x)) (NG (jA (BF (OY x i)) (TF x)) (AD (FF i (EL (OC x)) (AG (On (OC x) i) (AV (KA (OC x) i)) (TS (Ab x i)) (AV (Qd x i)) (Dx (Ab x i)))) (HF (BE i) (EL (QZ x))) (HA (λ j=>GM (Iz x) (DT (Qa x) (Qk x) (Ri x) (AF (λ k=>YT k (QZ x) (Bj x k) (OY x k))) (JH (V9 (qK x j)) (jA (BI (OY x i)) (TF x))) (BR j i) (Sa DJ (BJ (Qd x j) (Eu (Ab x i) (KA (OC x) i))) (AW (Qd x j) (Eu (Ab x i) (KA (OC x) i))) (CS (Hs (Ab x j))))) (Uy j x) (MG x) j i))) (λ j=>GM (Iz x) (DT (Qa x) (Qk x) (Ri x) (AF (λ k=>YT k (QZ x) (Bj x k) (OY x k))) (JH (V9 (qK x j)) (V9 (qK x i))) (BR j i) (Sa DJ (BJ (Qd x j) (Qd x i)) (AW (Qd x j) (Qd x i)) (Qn (Ab x j) (Ab x i)))) (Uy j x) (MG x) j i))) (FO (And (TS (Ab x i)) (U4 (AV (Qd x i)) (Dx (Ab x i)) (TS (Ab x i)))) (FsR.s (fsV x)) (Qi (Ab x i)) (FsR.s (fsV x)) (Qi (Ab x i)) (JH (FsR.b (fsV x)) (LJ (V9 (qK x i)) (Jn (Jq (Bo (Ab x i)))))) (AS (FsR.e (fsV x)) (Jq (Bo (Ab x i))))))) := by kernel_rfl
def ATJ (x : CZI) : Prop := CF Try.prog ARP wW (AH wW) (xCZI x) (AB []) (.tup [.d (IK zSp), .bool false, .int (ER x.a)]) [] [] []
abbrev We:=GQ Hi
attribute [go_sem] We
theorem BBV (x : CZI) : (ATJ x) = (EG (AJ (MZ x)) (AL (MZ x)) (AM (MZ x)) (AN (MZ x)) (HR (AQ (MZ x)) (OP (HN x) (MG x)) (SV (HN x) (MZ x)) (OM (HN x) (MZ x)) (λ i=>OO i (HN x) i (MZ x) i i) (MK (HN x)) (λ i=>MO i (HN x)) (SG (HN x)) (UV (Mb x))) (ED (MH (Mb x)) DJ (SH DJ We (Cx (HN x)) (Mb x)) KG)) := by kernel_rfl
theorem BGR : AK Try.prog ANI (C_Stage.spec dCZI) := okT C_Stage (λ (x : CZI) h => by
 have h1 : x.a.c.ms.length < 4611686018427387904 /\ x.a.c.ns.length < 4611686018427387904 /\ x.a.z.length < 4611686018427387904 := h
 by_cases c0 : ER x.a = 0
 ·have e : C_Stage.val x = .tup [.d (IK (wL (tV x)).1), .int (wL (tV x)).2] := by
   show AVal.tup [.d (IK (kA x).1), .int (kA x).2] = _
   unfold kA; rw [c0]; rfl
  rw [e]
  exact Pn (A := AZM x) (L := []) (keep := []) (ren := []) (fz := []) ARC (by kernel_rfl) (AA ANE (AA AJM (AA ALW (AA BAD (AA AXX (AA AVG (AA AUN AC))))))) (BPB x h1 c0) (BQV mW (itSg x) rfl rfl AC ARE (by kernel_rfl) (by kernel_rfl))
 ·have c0' : (ER x.a == 0) = false := by simpa using c0
  have e : C_Stage.val x = .tup [.d (IK zSp), .int (ER x.a)] := by
   show AVal.tup [.d (IK (kA x).1), .int (kA x).2] = _
   unfold kA; rw [c0']; rfl
  rw [e]
  refine Pn (A := ARN) (L := []) (keep := []) (ren := []) (fz := []) ARC (by kernel_rfl) (AA ALB AC) ?_
  show ATC x; rw [BBA]<;> delta BI BF EN EB EA BY AF CN CO AS XB EC ET GW FK HV IB HK GV FU HC DV FW EY LD SI KG CJ DN GB RU LO Lc Bq Cx HN AD CI AU FT GN AG GK AZ AX UB AE FA YO AW It BL BD AO AR DD BA VR BK JQ BO BJ CX BW BV AJ AQ AV Iv YR CK AN AL FO Ig AM ES CG PM EZ MZ Kb EV EQ MV FH EW DU LL HR Br FZ GI UC GA GC QR QP DY Ij MW UD Kx DJ SK GF EG MG OM OP RR MH XW XO WV Ba MK RO WX WE Gm MO OO SV UV Mb SG; simp only [CC, eq_self, implies_true, forall_const, CL, Lv]
  exact ⟨⟨h1, c0⟩, λ h => by simp [c0] at h⟩) _
theorem AYG {x : CZI} {k : Nat} (h : (qK x k).2 = true) : ∀ d, qK x (k + d) = qK x k
 | 0 => rfl
 | d + 1 => by
  have ih := AYG h d
  show (bif (qK x (k + d)).2 then qK x (k + d) else _) = _
  rw [ih, h]; rfl
theorem BMJ (x : CZI) (h1 : x.a.c.ms.length < 4611686018427387904 /\ x.a.c.ns.length < 4611686018427387904 /\ x.a.z.length < 4611686018427387904) (c0 : ER x.a = 0) : AZV x := by
 have tl := APZ c0
 have sl := ADS x.a.c
 obtain ⟨_, ⟨n1, n2⟩, _⟩ := OR (xT c0).1
 rw [BFP]<;> delta JH zU jA Hi BI BF EN MM ON EB EA BY EL AF CN CO AS KA BE XB EC JL FY MN NT LS ET GW FK HV IB HK GV FU HC DV FW EY LD HA Ey LC GZ CJ DN GB RU LO Jd Aq kQ Xd Bq Cx Hs Hx rE W7 HN TF V9 AD CI AU FT GN AG GK AZ AX UB AE FA BM GQ Wr U4 Sa AW It BL BD AO AR DD BA VR BK JQ BO BJ CX HI BW BV AJ AQ AV Iv YR CK AN AL GH FO Ig AM DK ES BX CG DO BC HH CE PM EZ MZ OJ Kb CS EV EQ MV FH DZ EW DU LL Rz JB HR BR OC Br FZ GI UC GA GC QR PF LG IM QP DY NO SX Ij MW UD JM RV Kx DT OW DJ YT On Da GR LJ OY HF MQ MX SK GF BZ Ab XY GG GM TK LW MG QZ WH Fw KU OM OP TL Bo FF PL RR XW XO WV TS Il Ba MK RO WX WE NG Yx MO OO SV Gs Dx Bj ZS Qd Iz Jq Eu Mb Di En Uy Qi Ri SG Qk Qa Jn Qn; simp only [CC, eq_self, implies_true, forall_const, CL, Ws, Rp, Lv, lI, APL, BEH]; simp only [tl, sl]
 refine ⟨⟨h1, c0⟩, ⟨0, ⟨rfl, rfl, rfl, rfl, rfl⟩, Nat.zero_le _⟩, λ k hk => ⟨λ hc => ?_, λ hc => ?_⟩⟩
 ·have hlt : k < x.a.c.ms.length := by
   cases hd : decide ((k : Int) < x.a.c.ms.length) with
   | false => rw [hd] at hc; cases hc
   | true => have := of_decide_eq_true hd; omega
  have hs : (qK x k).2 = false := by
   rw [decide_eq_true (show (k : Int) < x.a.c.ms.length by omega)] at hc
   cases hq : (qK x k).2 with
   | false => rfl
   | true => rw [hq] at hc; cases hc
  refine ⟨by omega, λ h => ?_, λ h => ?_⟩
  ·have e : qK x (k + 1) = (Sy (qK x k).1 (gD (T5 x.a) k), decide ((gD (Et x.a.c) k).lo >= x.t)) := by
    show (bif (qK x k).2 then _ else bif decide _ then _ else _) = _
    rw [hs, decide_eq_true h]; rfl
   refine ⟨by omega, by omega, k + 1, ⟨?_, (HL (by omega)).symm, ?_, ?_, ?_⟩, by omega, by omega⟩ <;> rw [e] <;> rfl
  ·have e : qK x (k + 1) = qK x k := by
    show (bif (qK x k).2 then _ else bif decide _ then _ else _) = _
    rw [hs, decide_eq_false h]; rfl
   refine ⟨k + 1, ⟨?_, (HL (by omega)).symm, ?_, ?_, ?_⟩, by omega, by omega⟩ <;> rw [e]
 ·have e : qK x x.a.c.ms.length = qK x k := by
   cases hq : (qK x k).2 with
   | true =>
    obtain ⟨d, hd⟩ : ∃ d, x.a.c.ms.length = k + d := ⟨x.a.c.ms.length - k, by omega⟩
    rw [hd]; exact AYG hq d
   | false =>
    rw [hq] at hc
    cases hd : decide ((k : Int) < x.a.c.ms.length) with
    | true => rw [hd] at hc; cases hc
    | false =>
     have := of_decide_eq_false hd
     rw [show k = x.a.c.ms.length by omega]
  unfold fsV; rw [e]; exact ⟨rfl, rfl, rfl, rfl⟩
theorem BIQ : AK Try.prog APM (C_First.spec dCZI) := okT C_First (λ (x : CZI) h => by
 have h1 : x.a.c.ms.length < 4611686018427387904 /\ x.a.c.ns.length < 4611686018427387904 /\ x.a.z.length < 4611686018427387904 := h
 by_cases c0 : ER x.a = 0
 ·have e : C_First.val x = .tup [.d (IK (fsV x).s), .bool (fsV x).b, .int (fsV x).e] := by
   show AVal.tup [.d (IK (Xe x).s), .bool (Xe x).b, .int (Xe x).e] = _
   unfold Xe; rw [c0]; rfl
  rw [e]
  exact Pn (A := AZD x) (L := []) (keep := []) (ren := []) (fz := []) ASK (by kernel_rfl) (AA ANE (AA ALW (AA AUN AC))) (BMJ x h1 c0)
 ·have c0' : (ER x.a == 0) = false := by simpa using c0
  have e : C_First.val x = .tup [.d (IK zSp), .bool false, .int (ER x.a)] := by
   show AVal.tup [.d (IK (Xe x).s), .bool (Xe x).b, .int (Xe x).e] = _
   unfold Xe; rw [c0']; rfl
  rw [e]
  refine Pn (A := ARP) (L := []) (keep := []) (ren := []) (fz := []) ASK (by kernel_rfl) (AA ALB AC) ?_
  show ATJ x; rw [BBV]<;> delta JH Hi BI BF EN EB EA BY AF CN CO AS XB EC ET GW FK HV IB HK GV FU HC DV FW EY LD SI KG CJ DN GB RU LO Lc Bq Cx HN AD CI AU FT GN AG GK AZ AX UB AE FA GQ AW It BL BD AO AR DD BA VR BK JQ BO BJ CX BW BV AJ AQ AV Iv YR CK AN AL FO Ig AM ES CG PM EZ MZ Kb EV EQ MV FH EW DU LL ED HR Br FZ GI UC GA GC QR QP DY Ij MW UD Kx DJ SK GF EG MG OM OP RR MH XW XO WV Ba MK RO WX WE SH MO OO SV UV Mb SG We; simp only [CC, eq_self, implies_true, forall_const, CL, Lv]
  exact ⟨⟨h1, c0⟩, λ h => by simp [c0] at h⟩) _
end Go.Bal
