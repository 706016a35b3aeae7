/- Package chart: stages at a time, from a time to another one, and when one is reached. -/
import Derived.Test.YtdbjalgfomknhaaGreatChH
set_option linter.unusedVariables false
set_option linter.unusedSimpArgs false
namespace Go.Bal
open Go Go.Sym Go.Proofs
def zHul : Hul := ⟨⟨0, 0⟩, false⟩
structure CZI where
 a : CZ
 t : Int
def dCZI : List AVal -> Heap -> Option (CZI × List (Nat × Nat) × List Nat)
 | [x, y, .d t], H => match vO x H, G1 y H with
  | some (c, f), some (l, e) => some (⟨⟨c, l⟩, HM t⟩, [], f ++ e)
  | _, _ => none
 | _, _ => none
def xCZI (x : CZI) : List AVal := [.d (Ef x.a.c), .d (JO x.a.z), .int x.t]
def RS (a : CZ) : List Span := (IA (GX a)).1
theorem AFT (h : Hul) : Hul.mk h.s h.m = h := rfl
theorem AWR (a : CZ) : (IA (GX a)).1 = RS a := rfl
theorem Wm {a : CZ} (h : DK a = 0) : (RS a).length = a.c.ms.length := by
 have h3 := (SR h).2.2
 unfold RS
 unfold IA at h3 ⊢
 rw [Qx] at h3 ⊢
 cases hs : Hf a.c with
 | false => rw [hs] at h3; cases h3
 | true => show (YW _ _).length = _; unfold YW; rw [rng_length, OY]
theorem R5 (c : Cht) : (WG c).length = c.ms.length := rng_length _ _
def bO (a : CZ) (t : Int) : Nat -> Hul
 | 0 => zHul
 | k + 1 => bif TP t (gD (RS a) k).lo (gD (RS a) k).hi then WT (bO a t k) (gD (WG a.c) k) else bO a t k
def tS (a : CZ) (t : Int) (g : Nat) : Bool := (YW (GX a) (kW (RS a) ((g : Int) + 1) (wr (t - 1)) (wr (t + 1)))).all Fa
def Wk (a : CZ) (t : Int) : Nat -> Hul
 | 0 => bO a t a.c.ms.length
 | g + 1 => bif tS a t g then WT (WT (Wk a t g) (gD (WG a.c) g)) (gD (WG a.c) (g + 1)) else Wk a t g
def aU (x : CZI) : Hul := bif TP x.t (-100000000) 100000000 then Wk x.a x.t (x.a.c.ms.length - 1) else bO x.a x.t x.a.c.ms.length
def Jy (x : CZI) : Span × Int := bif DK x.a == 0 then Gb (aU x) else (⟨0, 0⟩, DK x.a)
def C_Stage : Ctr := { α := CZI, xs := xCZI, val := λ x => .tup [.d (FX (Jy x).1), .int (Jy x).2], keep := λ _ => [], pre := λ x => [x.a.c.ms.length < 4611686018427387904 /\ x.a.c.ns.length < 4611686018427387904 /\ x.a.z.length < 4611686018427387904] }
def sgH (x : CZI) (h : Hul) : List (Nat × HCell) := [(201, .live (.box [.int x.t])), (202, .live (.box [.int 0, .int 0])), (203, .live (.box [.bptr 208 0])), (204, .live (.box [.d (DA (RS x.a))])), (205, .live (.box [.d (DA (WG x.a.c))])), (206, .live (hlB h)), (207, .live (.box [.fn (.func C5) [.bptr 206 0] []])), (208, .live (dkB (GX x.a) 209)), (209, .live (dkM (GX x.a)))]
def sg7 (x : CZI) : Shape := { α := Nat, dflt := 0, T := λ k => ⟨[(5, .bptr 201 0), (6, .bptr 202 0), (8, .bptr 203 0), (9, .bptr 204 0), (10, .bptr 205 0), (12, .bptr 206 0), (13, .bptr 207 0), (32, .int x.a.c.ms.length), (33, .int k)], sgH x (bO x.a x.t k)⟩, inv := λ k => k <= x.a.c.ms.length, meas := λ k => x.a.c.ms.length - k, first := [(201, 1016), (202, 1032), (203, 2128), (204, 2144), (205, 2160), (206, 5000), (207, 6016), (208, 2032), (209, 2033)] }
def sg1 (x : CZI) (l : Nat) : Shape := { α := Nat, dflt := 0, T := λ g => ⟨[(0, .fn (.yield l) [] []), (1, .bptr 14016 0), (12, .int (wr ((x.a.c.ms.length : Int) - 1))), (13, .int g)], sgH x (Wk x.a x.t g) ++ [(14016, .live (.box [.bptr 208 0]))]⟩, inv := λ g => g <= x.a.c.ms.length - 1, meas := λ g => 50 - g }
noncomputable def itSg (x : CZI) : IterAnn := { fn := tX, code := AH tX, live := [5, 6, 8, 9, 10, 12, 13], ann := { base := λ id => 100000 + 1000 * (id + 1), Γ := Sym.look [], E := [201, 202, 203, 204, 205, 206, 207, 208, 209, 14016], n := 66, inner := λ gs id => if id = 1 then some [sg1 x (gs.getD 0 0)] else none } }
noncomputable def AQJ (x : CZI) : Ann := { ann 92 [(Vy, C_rdO.spec dCZ), (n_in, s_in), (C5, C_hadd.spec dHuS), (AHS, C_gaps.spec xG), (tO, C_part.spec dDkQ), (So, C_nar.spec dDkS), (tB, C_who.spec dHu1)] with iter := λ g => if g = lS then some (itSg x) else none, loops := λ id => if id = 7 then some [sg7 x] else none }
def AKX : Ann := ann 92 [(Vy, C_rdX.spec dCZ)]
def AQO (x : CZI) : Prop := CL Try.prog (AQJ x) vC (AH vC) (xCZI x) (AB []) (.tup [.d (FX (Gb (aU x)).1), .int (Gb (aU x)).2]) [] [] []
abbrev EL:=CZI.a
abbrev PL:=CZI.t
abbrev Tv a:=Hul.mk (Bg a) (UZ a)
abbrev EQ a b:=bO (EL a) (PL a) b
abbrev Pe a:=Ki (Tv a)
abbrev H7 a b c:=N8 a b c b
abbrev CB a b:=Wk (EL a) (PL a) b
abbrev GK a:=NV (EL a)
abbrev Lc a:=Dx (GK a)
abbrev AY a:=GS (EL a)
abbrev Gv a b:=QU (AY a) b
abbrev KK a:=Iz (EL a)
abbrev OS a b:=KY (UZ a) (UZ b)
abbrev LB a b:=Hp a (Bg b)
abbrev KZ a b:=Fl a (Oo b)
abbrev PP a:=FT (EL a)
abbrev TL a:=TT (PP a)
abbrev Qf a:=IZ (TL a)
abbrev Qi a:=NO (TL a)
abbrev GD a:=RS (EL a)
abbrev Ip a:=IZ (GD a)
abbrev TX a:=NO (GD a)
abbrev QD a:=AF (PL a)
abbrev Qe a:=DI (UZ a)
abbrev rR a b:=WT (Tv a) b
abbrev yS a b c:=rR a (LU b c)
abbrev Du a b c:=yS a (TL b) c
abbrev WP a:=FZ (PL a)
abbrev LF a:=CU (GD a)
abbrev Tm a b c:=TP (PL a) b c
abbrev Dp a:=CX (EL a)
abbrev Mh a:=PJ (Bg a)
abbrev Mw a:=JF (Oo a)
abbrev Bi a:=KG (EL a)
abbrev IN a b:=FL a (BU b)
abbrev XI a:=PN (EL a)
abbrev Ih a:=JR (EL a)
abbrev uI a b:=SV (EL a) b
abbrev XX a b c d e f:=VE a (EL b) (Bc (EL c) d) (uI e f)
abbrev XW a b:=PU (EL a) (PP b)
abbrev Eg a b:=RN (EL a) (PP b)
abbrev YC a b:=PF (EL a) (GK b)
abbrev SM a:=AT (PP a)
abbrev SB a:=AS (PP a)
abbrev NR a:=AP (PP a)
abbrev NJ a:=AL (PP a)
abbrev NK a:=AM (PP a)
attribute [go_sem] EL PL Tv EQ Pe H7 CB GK Lc AY Gv KK OS LB KZ PP TL Qf Qi GD Ip TX QD Qe rR yS Du WP LF Tm Dp Mh Mw Bi IN XI Ih uI XX XW Eg YC SM SB NR NJ NK
theorem AZQ (x : CZI) : (AQO x) = (IF (AG (NK x) (NJ x) (NR x) (SB x) (HJ (SM x) (YC x x) (Eg x x) (XW x x) (λ i=>XX i x x i x i) (Ih x) (λ i=>LJ i (EL x)) (TG (EL x)) (Hl (XI x)))) (GW (λ i=>TD (And (IN (GK x) (CU (Gc (EL x)))) (Wd (BR i) (QD x) AJ (HO (GD x) (Gc (EL x))) (NU (LF x) (GD x) (Gc (EL x))) (HO (TL x) (TT (Bi x))) (NU (CU (TL x)) (TL x) (TT (Bi x))) (AR (Mw (EQ x i)) (Mh (EQ x i)) (EU (UZ (EQ x i))) (Aw (AY x) (Dp x)) (Cj (AY x) (Dp x)) (Bb (AY x) (Dp x)) (By (AY x) (Dp x)) (Bs (AY x) (Dp x)) (QP (Bh (AY x) (Dp x)) (λ j=>LI j (AW (AY x)) (BO (AY x) j) (Dp x) (CF (AY x) j)) (Bu (AY x) (Dp x)) (λ j=>FF j (AY x) (XA (AY x) j (Dp x) j) (DJ (Dp x) j) (XK (AY x) j (Dp x) j) (WH (AY x) j (Dp x) j) (BG (Dp x) j)) (AC (λ j=>Gu j (LW (KK x) j) (LW (VA (EL x)) j))) BL (λ j=>Br (AY x) j (Dp x) j) (λ j=>Bl (KK x) j (VA (EL x)) j) (λ j=>LA (Gv x j) (Rg (EL x) j)))))) i (GK x))) (λ i=>CO (LL i (GK x)) i (GK x) (RG (DG i (LF x)) (BU i) (LF x)) (DV (Tm x (EM (GD x) i) (MX (GD x) i)) (CW (ZW i (TL x)) (ZC (TL x) i) (ZD (TL x) i) (UI (EQ x i)) (ZV (EQ x i)) (Lw (EQ x i))) (GW (λ j=>VC (And (BW (GK x)) (Wd (BH j i) (QD x) AJ (TX x) (Ip x) (Qi x) (Qf x) (FR (KZ (EQ x j) (Du (EQ x i) x i)) (LB (EQ x j) (Du (EQ x i) x i)) (Qe (EQ x j)) (AY x) (RE (AY x) (KK x) (λ k=>Gv x k))))) j (GK x) j i)) (GW (λ j=>VC (And (BW (GK x)) (Wd (BH j i) (QD x) AJ (TX x) (Ip x) (Qi x) (Qf x) (FR (KZ (EQ x j) (EQ x i)) (LB (EQ x j) (EQ x i)) (OS (EQ x j) (EQ x i)) (AY x) (RE (AY x) (KK x) (λ k=>Gv x k))))) j (GK x) j i))) (DV (Tm x (-100000000) 100000000) (AN (AM (AY x)) (AL (AY x)) (AP (AY x)) (DF (AS (AY x)) (AT (AY x)) (BM (AY x)) (SE (AY x)) (BK (AY x)) (JB (AY x)) (λ j=>QZ j (KK x)) BL (FR (PH (AY x)) (HB (KK x)) (BT (λ j=>HZ (AY x) j (Gv x j))) (AY x) (QP (CA (AY x)) (λ j=>EE j (AY x)) (BZ (AY x)) (λ j=>CP j (AY x)) (IB (KK x)) BL (λ j=>ZI (AY x) j) (λ j=>MC (KK x) j) (λ j=>JU (Gv x j) (AY x) j))))) (AC (λ j=>DY (λ k=>TD (AE (Lm j) (AQ (wr (Cs (BU (GK x)) 1)) (OZ (NF (AY x)))) (Wd (BR k) (QD x) AJ (TX x) (Ip x) (Qi x) (Qf x) (FR (KZ (CB x k) (EQ x i)) (LB (CB x k) (EQ x i)) (OS (CB x k) (EQ x i)) (AY x) (RE (AY x) (KK x) (λ l=>Gv x l))))) k (Lc x)) (λ k=>BX (LL k (Lc x)) (DX (IS k (wr (Cs (BU (GK x)) 1))) (AN (UB (CJ k) (AW (AY x)) (BU k)) (DG k 40) (ME k 40) (DX (LW (KK x) k) (AE (BC j) (AE (NA (GD x) (LF x)) (VX (GD x)) (FR (AF (CJ k)) (AF (OZ (PL x))) (AF (WP x)) (AY x) (QK (BM (AY x)) (λ l=>AZ l (AY x)) (BK (AY x)) (λ l=>BJ l (AY x)) (KK x) BL (λ l=>NW (AY x) l) (λ l=>MC (KK x) l) (AR (BT (λ l=>HZ (AY x) l (Gv x l))) (AM (AY x)) (AL (AY x)) (AP (AY x)) (AS (AY x)) (AT (AY x)) (CA (AY x)) (KI (AY x)) (MY (BZ (AY x)) (λ l=>CP l (AY x)) (IB (KK x)) (IE (AY x)) (HB (KK x)) (λ l=>JU (Gv x l) (AY x) l) (RD (KJ (MQ (GD x)) 40) (CJ k) (ZM (CJ k) (MQ (GD x)))) (BY (NA (ZU (GD x) (CJ k) (PL x) (WP x)) (CU (ZU (GD x) (CJ k) (PL x) (WP x)))) (λ l=>MJ l (MQ (ZU (GD x) (CJ k) (PL x) (WP x))) (PM (ZU (GD x) (CJ k) (PL x) (WP x))) (ZU (GD x) (CJ k) (PL x) (WP x))) (AM (AY x)) (AL (AY x)) (AP (AY x)) (AS (AY x)) (AT (AY x)) (BM (AY x)) (DO (λ l=>AZ l (AY x)) (BK (AY x)) (λ l=>BJ l (AY x)) (IB (KK x)) BL (PH (AY x)) (HB (KK x)) (BT (λ l=>HZ (AY x) l (Gv x l))) (YL (AY x) (BY (UM (AY x)) (λ l=>QZ l (KK x)) BL (IE (AY x)) (HB (KK x)) (BT (λ l=>JU (Gv x l) (AY x) l)) (NA (ZU (GD x) (CJ k) (PL x) (WP x)) (EN (AY x))) (WO (AY x)) (UD (AY x))))))))))) (JM (kH (Xb (Rm (EH (AY x)) (KK x)) (PM (ZU (GD x) (CJ k) (PL x) (WP x)))) Fa) (CW (ZW k (TL x)) (ZC (TL x) k) (ZD (TL x) k) (UI (CB x k)) (ZV (CB x k)) (Lw (CB x k))) (CW (DQ (CJ k) (CU (TL x))) (ZC (TL x) (PT k)) (ZD (TL x) (PT k)) (UI (Du (CB x k) x k)) (ZV (Du (CB x k) x k)) HF) (GW (λ l=>Aa (AE (Lm j) (AF (wr (Cs (BU (GK x)) 1))) (Wd (BH l k) (QD x) AJ (TX x) (Ip x) (Qi x) (Qf x) (FR (KZ (CB x l) (Du (Du (CB x k) x k) x (PT k))) (LB (CB x l) (Du (Du (CB x k) x k) x (PT k))) (Qe (CB x l)) (AY x) (RE (AY x) (KK x) (λ m=>Gv x m))))) l (Lc x) 50 l k)) (GW (λ l=>Aa (AE (Lm j) (AF (wr (Cs (BU (GK x)) 1))) (Wd (BH l k) (QD x) AJ (TX x) (Ip x) (Qi x) (Qf x) (FR (KZ (CB x l) (CB x k)) (LB (CB x l) (CB x k)) (OS (CB x l) (CB x k)) (AY x) (RE (AY x) (KK x) (λ m=>Gv x m))))) l (Lc x) 50 l k)))) (AE (BC j) (AE (NA (GD x) (LF x)) (VX (GD x)) (FR (AF (CJ k)) (AF (OZ (PL x))) (AF (WP x)) (AY x) (QK (BM (AY x)) (λ l=>AZ l (AY x)) (BK (AY x)) (λ l=>BJ l (AY x)) (KK x) BL (λ l=>NW (AY x) l) (λ l=>MC (KK x) l) (AR (BT (λ l=>HZ (AY x) l (Gv x l))) (AM (AY x)) (AL (AY x)) (AP (AY x)) (AS (AY x)) (AT (AY x)) (CA (AY x)) (KI (AY x)) (MY (BZ (AY x)) (λ l=>CP l (AY x)) (IB (KK x)) (IE (AY x)) (HB (KK x)) (λ l=>JU (Gv x l) (AY x) l) (RD (KJ (MQ (GD x)) 40) (CJ k) (ZM (CJ k) (MQ (GD x)))) (BY (NA (ZU (GD x) (CJ k) (PL x) (WP x)) (CU (ZU (GD x) (CJ k) (PL x) (WP x)))) (λ l=>MJ l (MQ (ZU (GD x) (CJ k) (PL x) (WP x))) (PM (ZU (GD x) (CJ k) (PL x) (WP x))) (ZU (GD x) (CJ k) (PL x) (WP x))) (AM (AY x)) (AL (AY x)) (AP (AY x)) (AS (AY x)) (AT (AY x)) (BM (AY x)) (DO (λ l=>AZ l (AY x)) (BK (AY x)) (λ l=>BJ l (AY x)) (IB (KK x)) BL (PH (AY x)) (HB (KK x)) (BT (λ l=>HZ (AY x) l (Gv x l))) (YL (AY x) (BY (UM (AY x)) (λ l=>QZ l (KK x)) BL (IE (AY x)) (HB (KK x)) (BT (λ l=>JU (Gv x l) (AY x) l)) (NA (ZU (GD x) (CJ k) (PL x) (WP x)) (EN (AY x))) (WO (AY x)) (UD (AY x))))))))))) (JM (kH (Xb (Rm (EH (AY x)) (KK x)) (PM (ZU (GD x) (CJ k) (PL x) (WP x)))) Fa) (CW (ZW k (TL x)) (ZC (TL x) k) (ZD (TL x) k) (UI (CB x k)) (ZV (CB x k)) (Lw (CB x k))) (CW (DQ (CJ k) (CU (TL x))) (ZC (TL x) (PT k)) (ZD (TL x) (PT k)) (UI (Du (CB x k) x k)) (ZV (Du (CB x k) x k)) HF) (GW (λ l=>Aa (AE (Lm j) (AF (wr (Cs (BU (GK x)) 1))) (Wd (BH l k) (QD x) AJ (TX x) (Ip x) (Qi x) (Qf x) (FR (KZ (CB x l) (Du (Du (CB x k) x k) x (PT k))) (LB (CB x l) (Du (Du (CB x k) x k) x (PT k))) (Qe (CB x l)) (AY x) (RE (AY x) (KK x) (λ m=>Gv x m))))) l (Lc x) 50 l k)) (GW (λ l=>Aa (AE (Lm j) (AF (wr (Cs (BU (GK x)) 1))) (Wd (BH l k) (QD x) AJ (TX x) (Ip x) (Qi x) (Qf x) (FR (KZ (CB x l) (CB x k)) (LB (CB x l) (CB x k)) (OS (CB x l) (CB x k)) (AY x) (RE (AY x) (KK x) (λ m=>Gv x m))))) l (Lc x) 50 l k)))))) (AN (And (UI (CB x k)) (H7 (ZV (CB x k)) (Lw (CB x k)) (UI (CB x k)))) (NQ (Ki (aU x)) (Pe (CB x k))) (BD (Ki (aU x)) (Pe (CB x k))) (Ad (Gb (aU x)) (Vx (Tv (CB x k))))))))) (AN (And (UI (EQ x i)) (H7 (ZV (EQ x i)) (Lw (EQ x i)) (UI (EQ x i)))) (NQ (Ki (aU x)) (Pe (EQ x i))) (BD (Ki (aU x)) (Pe (EQ x i))) (Ad (Gb (aU x)) (Vx (Tv (EQ x i)))))))) := by kernel_rfl
def ALA (x : CZI) : Prop := CL Try.prog AKX vC (AH vC) (xCZI x) (AB []) (.tup [.d (FX zSp), .int (DK x.a)]) [] [] []
abbrev dK a:=Dd (XI a)
attribute [go_sem] dK
theorem ASM (x : CZI) : (ALA x) = (QQ (AG (NK x) (NJ x) (NR x) (SB x) (HJ (SM x) (YC x x) (Eg x x) (XW x x) (λ i=>XX i x x i x i) (Ih x) (λ i=>LJ i (EL x)) (TG (EL x)) (XU (dK x)))) (dK x) (YT AJ (Fv (EL x) (dK x))) NG) := by kernel_rfl
theorem BDF (x : CZI) (h1 : x.a.c.ms.length < 4611686018427387904 /\ x.a.c.ns.length < 4611686018427387904 /\ x.a.z.length < 4611686018427387904) (c0 : DK x.a = 0) : AQO x := by
 have tl := Wm c0
 have sl := R5 x.a.c
 have hl := RA (SR c0).1
 obtain ⟨_, ⟨n1, n2⟩, _⟩ := hl
 have w1 : wr ((x.a.c.ms.length : Int) - 1) = ((x.a.c.ms.length - 1 : Nat) : Int) := by unfold wr; rw [Dh (by omega) (by omega)]; omega
 have w2 : IntKind.i64.wrap ((x.a.c.ms.length : Int) - 1) = ((x.a.c.ms.length - 1 : Nat) : Int) := w1
 have po : ∀ g : Nat, (YW (GX x.a) (kW (RS x.a) ((g : Int) + 1) (IntKind.i64.wrap (x.t - 1)) (IntKind.i64.wrap (x.t + 1)))).all Fa = tS x.a x.t g := λ _ => rfl
 rw [AZQ]<;> delta KY Aq BA BI FW OH PR Cs EX FI CE CU AC BX CM AQ LU BU WF DH DX IP HD LS PG JV ER GP GA HQ HT HC HR DS GB ED GW Ak kH IX HV SX BT PO LL AV BV BQ LW FT SA NM Iz TT Xb kJ Sy Dd UZ Bg Tb Rd EL PL AE BG AW EO GJ GI AG SV GM GS NV BF BE UR CK QU AR VB CN BD AF JJ CG BC EZ N8 H7 Wd AO CQ GT BS CV Dc JL CY BO HK CR DD AL KA ZB Ao QX Bc Cl CF AM AT AY DM DR DZ GF GG DW RB AS DJ EG FC Ic PP Db AP EY FG FS EN Uf DC DB CS HW FV TB GR FZ JD DF KU HA GD RY QW KB LQ FU EM EH KG CX FE ET DE CJ GQ AN BY LP NY FY FJ pN EV EJ KD DI Hh uI BL MF XQ JS OZ Tx FL JE HY JH HH LR OK GK LV Df JG XJ BH JI ZC ZA JQ OM JF KV JP ZD NO DV Oo JZ HJ Gv TL PM DQ MQ MT DG BK PN QZ Rm IT EB MC KF NF LM LX EK OJ MR CW IB MG OX QV WB IN LO HB KE MD KR MO IS KC MU OV Dj Rg QS QY QP HG TR EU HX ME VA DU BM BZ CA CB EP FQ GZ UH LI AZ TW CH AJ IY JC OC PF UE PU YM PT BR BW JN SI SU KP Dx Eo IZ Hl TI Fl CO Hp HF DY LF MM EQ FF RP LA NL MJ GO KL VE DO Jd QC MX KK OP ZH RD ZJ HO LB KZ Bv NR NQ HZ Tv Gh JR QM EE JW NW ZI BJ SG NK JM QD KJ IE OS JU PY XI QJ PJ SB RG LJ CP NB NJ PS Ki yB TX UI KI YJ FR NU IF SM ZM NA PH RN RE Dp ZU JB Bi rR Ad ZV YC WO Aa UM Ie UB VC XW TD Gc UD Xp SE Va WP XK VX Tp XA WH yS Bs Bh Pe Wg ZW Ip Lm Lw Aw Bb Eg By Lc XX Bl Br TG Bu Qi Cj Ih Qf Gu QK Du Tm Mh Mw Qe Vx MY YL; simp only [CC, eq_self, implies_true, forall_const, DN, aF, Qx, Cg, jO, AFT, AWR]; simp only [tl, sl, w1, w2, bG]
 have e1 : ∀ k, TP x.t (gD (RS x.a) k).lo (gD (RS x.a) k).hi = true -> bO x.a x.t (k + 1) = WT (bO x.a x.t k) (gD (WG x.a.c) k) := λ k h => by
  show (bif TP x.t (gD (RS x.a) k).lo (gD (RS x.a) k).hi then _ else _) = _; rw [h]; rfl
 have e0 : ∀ k, TP x.t (gD (RS x.a) k).lo (gD (RS x.a) k).hi = false -> bO x.a x.t (k + 1) = bO x.a x.t k := λ k h => by
  show (bif TP x.t (gD (RS x.a) k).lo (gD (RS x.a) k).hi then _ else _) = _; rw [h]; rfl
 have f1 : ∀ g, tS x.a x.t g = true -> Wk x.a x.t (g + 1) = WT (WT (Wk x.a x.t g) (gD (WG x.a.c) g)) (gD (WG x.a.c) (g + 1)) := λ g h => by
  show (bif tS x.a x.t g then _ else _) = _; rw [h]; rfl
 have f0 : ∀ g, tS x.a x.t g = false -> Wk x.a x.t (g + 1) = Wk x.a x.t g := λ g h => by
  show (bif tS x.a x.t g then _ else _) = _; rw [h]; rfl
 refine ⟨⟨h1, c0⟩, ⟨0, ⟨trivial, rfl, rfl, rfl, rfl⟩, Nat.zero_le _⟩, λ k hk => ⟨λ hlt => ⟨by omega, λ hin => ⟨by omega, k + 1, ⟨(FH (by omega)).symm, ?_, ?_, ?_⟩, by omega, by omega⟩, λ hin => ⟨k + 1, ⟨(FH (by omega)).symm, ?_, ?_, ?_⟩, by omega, by omega⟩⟩, λ hge => ⟨λ ht => ⟨⟨0, ⟨trivial, rfl, ?_, ?_, ?_⟩, Nat.zero_le _⟩, λ g hg => ⟨λ hlt => ?_, λ hgg => ?_⟩⟩, λ ht => ?_⟩⟩⟩
 ·rw [e1 k hin]
 ·rw [e1 k hin]
 ·rw [e1 k hin]; rfl
 ·rw [e0 k hin]
 ·rw [e0 k hin]
 ·rw [e0 k hin]
 ·obtain rfl : k = x.a.c.ms.length := by omega
  rfl
 ·obtain rfl : k = x.a.c.ms.length := by omega
  rfl
 ·obtain rfl : k = x.a.c.ms.length := by omega
  rfl
 ·have hlt : g < x.a.c.ms.length - 1 := by omega
  have ew : IntKind.i64.wrap ((g : Int) + 1) = (g : Int) + 1 := by rw [FH (by omega)]; rfl
  have tn : ((g : Int) + 1).toNat = g + 1 := by omega
  have ec : ((g + 1 : Nat) : Int) = (g : Int) + 1 := rfl
  simp only [ew, tn, po]
  have body : ((((0 : Nat) < x.a.c.ms.length /\ x.a.c.ms.length <= 40) /\ 0 <= (g : Int) + 1 /\ (g : Int) + 1 <= x.a.c.ms.length)) := ⟨⟨by omega, by omega⟩, by omega, by omega⟩
  refine ⟨⟨⟨by omega, by omega⟩, by omega, by omega⟩, ⟨by omega, by omega⟩, by omega, λ _ => ?_, λ _ => ?_⟩ <;>
  ·refine ⟨⟨body, trivial, by omega, n2⟩, λ h => ⟨⟨by omega, by omega⟩, ⟨by omega, by omega⟩, g + 1, ⟨ec, ?_, ?_, ?_⟩, by omega, by omega⟩, λ h => ⟨g + 1, ⟨ec, ?_, ?_, ?_⟩, by omega, by omega⟩⟩
   ·rw [f1 g h]
   ·rw [f1 g h]
   ·rw [f1 g h]; rfl
   ·rw [f0 g h]
   ·rw [f0 g h]
   ·rw [f0 g h]
 ·obtain rfl : g = x.a.c.ms.length - 1 := by omega
  have : aU x = Wk x.a x.t (x.a.c.ms.length - 1) := by unfold aU; rw [ht]; rfl
  rw [this]; exact ⟨rfl, rfl, rfl⟩
 ·obtain rfl : k = x.a.c.ms.length := by omega
  have : aU x = bO x.a x.t x.a.c.ms.length := by unfold aU; rw [ht]; rfl
  rw [this]; exact ⟨rfl, rfl, rfl⟩
def Ov (x : CZI) : Nat -> Hul × Bool
 | 0 => (zHul, false)
 | k + 1 => bif (Ov x k).2 then Ov x k else bif decide ((gD (WG x.a.c) k).hi >= x.t) then (WT (Ov x k).1 (gD (RS x.a) k), decide ((gD (WG x.a.c) k).lo >= x.t)) else Ov x k
structure FsR where
 s : Span
 b : Bool
 e : Int
def fsV (x : CZI) : FsR := ⟨(Gb (Ov x x.a.c.ms.length).1).1, bif (Ov x x.a.c.ms.length).2 then (Gb (Ov x x.a.c.ms.length).1).2 == 0 else false, (Gb (Ov x x.a.c.ms.length).1).2⟩
def ZN (x : CZI) : FsR := bif DK x.a == 0 then fsV x else ⟨⟨0, 0⟩, false, DK x.a⟩
def C_First : Ctr := { α := CZI, xs := xCZI, val := λ x => .tup [.d (FX (ZN x).s), .bool (ZN x).b, .int (ZN x).e], keep := λ _ => [], pre := λ x => [x.a.c.ms.length < 4611686018427387904 /\ x.a.c.ns.length < 4611686018427387904 /\ x.a.z.length < 4611686018427387904] }
def fs7 (x : CZI) : Shape := { α := Nat, dflt := 0, T := λ k => ⟨[(2, .int x.t), (6, .bptr 202 0), (10, .d (DA (RS x.a))), (11, .d (DA (WG x.a.c))), (13, .bptr 206 0), (14, .bool (Ov x k).2), (15, .int k)], [(202, .live (.box [.int 0, .int 0])), (206, .live (hlB (Ov x k).1))]⟩, inv := λ k => k <= x.a.c.ms.length, meas := λ k => x.a.c.ms.length - k, first := [(202, 1016), (206, 5000)] }
def ARZ (x : CZI) : Ann := { ann 69 [(Vy, C_rdO.spec dCZ), (C5, C_hadd.spec dHuS), (tB, C_who.spec dHu1)] with loops := λ id => if id = 7 then some [fs7 x] else none }
def ALI : Ann := ann 69 [(Vy, C_rdX.spec dCZ)]
def ARX (x : CZI) : Prop := CL Try.prog (ARZ x) vK (AH vK) (xCZI x) (AB []) (.tup [.d (FX (fsV x).s), .bool (fsV x).b, .int (fsV x).e]) [] [] []
abbrev Us:=FsR.b
abbrev Wf:=FsR.e
abbrev MP a b:=(@Prod.fst Hul Bool) (Ov a b)
abbrev Ng a b:=(@Prod.snd Hul Bool) (Ov a b)
abbrev Il a b:=UZ (MP a b)
abbrev aR a b c d e f g h:=AR a b c d e e f g h
attribute [go_sem] Us Wf MP Ng Il aR
theorem AYT (x : CZI) : (ARX x) = (IF (AG (NK x) (NJ x) (NR x) (SB x) (HJ (SM x) (YC x x) (Eg x x) (XW x x) (λ i=>XX i x x i x i) (Ih x) (λ i=>LJ i (EL x)) (TG (EL x)) (Hl (XI x)))) (GW (λ i=>ND (QD x) (HO (GD x) (Gc (EL x))) (NU (LF x) (GD x) (Gc (EL x))) (aR (HO (TL x) (TT (Bi x))) (NU (CU (TL x)) (TL x) (TT (Bi x))) (EU (Ng x i)) (BR i) AJ (Mw (MP x i)) (Mh (MP x i)) (EU (Il x i))) (LL i (GK x)))) (λ i=>HX (LL i (GK x)) (GH (HG i (LF x)) (not (Ng x i))) (ZW i (TL x)) (JM (lI (MX (TL x) i) (PL x)) (CW (DG i (LF x)) (ZC (GD x) i) (ZD (GD x) i) (UI (MP x i)) (ZV (MP x i)) (EZ (Il x i))) (ZW i (TL x)) (GW (λ j=>VC (AN (QD x) (TX x) (Ip x) (aR (Qi x) (Qf x) (KY (Ng x j) (lI (EM (TL x) i) (PL x))) (BH j i) AJ (KZ (MP x j) (yS (MP x i) (GD x) i)) (LB (MP x j) (yS (MP x i) (GD x) i)) (DI (Il x j)))) j (GK x) j i)) (GW (λ j=>VC (AN (QD x) (TX x) (Ip x) (aR (Qi x) (Qf x) (KY (Ng x j) (Ng x i)) (BH j i) AJ (KZ (MP x j) (MP x i)) (LB (MP x j) (MP x i)) (OS (MP x j) (MP x i)))) j (GK x) j i))) (AG (And (UI (MP x i)) (H7 (ZV (MP x i)) (EZ (Il x i)) (UI (MP x i)))) (NQ (FsR.s (fsV x)) (Pe (MP x i))) (BD (FsR.s (fsV x)) (Pe (MP x i))) (KY (Us (fsV x)) (GH (Ng x i) (WI (Vx (Tv (MP x i))) 0))) (AQ (Wf (fsV x)) (Vx (Tv (MP x i))))))) := by kernel_rfl
def ALC (x : CZI) : Prop := CL Try.prog ALI vK (AH vK) (xCZI x) (AB []) (.tup [.d (FX zSp), .bool false, .int (DK x.a)]) [] [] []
theorem ASL (x : CZI) : (ALC x) = (QQ (AG (NK x) (NJ x) (NR x) (SB x) (HJ (SM x) (YC x x) (Eg x x) (XW x x) (λ i=>XX i x x i x i) (Ih x) (λ i=>LJ i (EL x)) (TG (EL x)) (XU (dK x)))) (dK x) (AN AJ AJ (EZ Aq) (Fv (EL x) (dK x))) NG) := by kernel_rfl
theorem AKE : AK Try.prog L2 (C_Stage.spec dCZI) := okT C_Stage (λ (x : CZI) h => by
 have h1 : x.a.c.ms.length < 4611686018427387904 /\ x.a.c.ns.length < 4611686018427387904 /\ x.a.z.length < 4611686018427387904 := h
 by_cases c0 : DK x.a = 0
 ·have e : C_Stage.val x = .tup [.d (FX (Gb (aU x)).1), .int (Gb (aU x)).2] := by
   show AVal.tup [.d (FX (Jy x).1), .int (Jy x).2] = _
   unfold Jy; rw [c0]; rfl
  rw [e]
  exact Rc (A := AQJ x) (L := []) (keep := []) (ren := []) (fz := []) AIS (by kernel_rfl) (AA AFZ (AA ACD (AA ADH (AA APB (AA APY (AA AML (AA ANH AD))))))) (BDF x h1 c0) (BJG lS (itSg x) rfl rfl AD AKH (by kernel_rfl) (by kernel_rfl))
 ·have c0' : (DK x.a == 0) = false := by simpa using c0
  have e : C_Stage.val x = .tup [.d (FX zSp), .int (DK x.a)] := by
   show AVal.tup [.d (FX (Jy x).1), .int (Jy x).2] = _
   unfold Jy; rw [c0']; rfl
  rw [e]
  refine Rc (A := AKX) (L := []) (keep := []) (ren := []) (fz := []) AIS (by kernel_rfl) (AA AIE AD) ?_
  show ALA x; rw [ASM]<;> delta BA BI FW EX FI CE AC BX CM AQ WF DX ER GP GA HQ HT HC HR DS GB ED TU NG BV BQ FT SA NM Ow Dd EL AE BG AW EO GJ GI AG SV GM NV BF BE UR CK AR VB CN BD AF CG YT AO CQ BS CV Dc JL CY BO CR AL ZB Ao QX Bc Cl CF AM AT DR AS EG FC PP Db AP FG CS FV TB DF HA FU KG ET NY FY FJ EV EJ Hh uI MF HH LR OK GK Df OM HJ MT PN EK QV MD GZ LI AJ PF UE PU SU GN NL VE QC OP NR JR QM JW NK PY XI QJ SB LJ NJ PS SM UN RN YC QQ XW XU Eg XX TG Fv Ih dK; simp only [CC, eq_self, implies_true, forall_const, DN, Cg]
  exact ⟨⟨h1, c0⟩, λ h => by simp [c0] at h⟩) _
theorem AQA {x : CZI} {k : Nat} (h : (Ov x k).2 = true) : ∀ d, Ov x (k + d) = Ov x k
 | 0 => rfl
 | d + 1 => by
  have ih := AQA h d
  show (bif (Ov x (k + d)).2 then Ov x (k + d) else _) = _
  rw [ih, h]; rfl
theorem BCR (x : CZI) (h1 : x.a.c.ms.length < 4611686018427387904 /\ x.a.c.ns.length < 4611686018427387904 /\ x.a.z.length < 4611686018427387904) (c0 : DK x.a = 0) : ARX x := by
 have tl := Wm c0
 have sl := R5 x.a.c
 obtain ⟨_, ⟨n1, n2⟩, _⟩ := RA (SR c0).1
 rw [AYT]<;> delta KY lI Aq BA BI FW OH PR EX FI CE CU AC BX CM AQ LU BU WF DX IP HD LS PG JV ER GP GA HQ HT HC HR DS GB ED GW WI IX LL BV BQ FT SA NM Iz TT kJ Sy Dd UZ Bg Tb Rd EL PL Us Wf AE BG AW EO GJ GI AG SV GM NV BF BE UR CK AR VB CN BD AF CG BC EZ aR N8 H7 AO CQ BS CV Dc JL CY BO HK CR AL ZB Ao QX Bc Cl CF AM AT DR GF DW AS EG FC PP Db AP FG DC CS FV TB GR FZ DF HA GD FU EM KG ET CJ GQ AN NY FY FJ EV EJ DI Hh uI MF FL HH LR OK GK LV Df JG BH ZC OM JF JP ZD NO DV Oo JZ HJ TL MT DG PN LX EK CW QV LO MD IS MP HG EU HX VA DU GZ LI TW AJ OC PF UE PU BR SU KP GH Eo IZ Hl TI Fl Hp LF RP NL MJ VE QC MX OP HO LB KZ NR NQ Tv JR QM JW NK JM QD OS PY XI QJ PJ SB LJ NJ PS Ki TX UI NU IF SM RN ND Bi rR ZV YC Aa Il VC XW Gc Ng yS Pe ZW Ip Eg XX TG Qi Ih Qf Mh Mw Vx; simp only [CC, eq_self, implies_true, forall_const, DN, aF, Qx, Cg, jO, AFT, AWR]; simp only [tl, sl]
 refine ⟨⟨h1, c0⟩, ⟨0, ⟨rfl, rfl, rfl, rfl, rfl⟩, Nat.zero_le _⟩, λ k hk => ⟨λ hc => ?_, λ hc => ?_⟩⟩
 ·have hlt : k < x.a.c.ms.length := by
   cases hd : decide ((k : Int) < x.a.c.ms.length) with
   | false => rw [hd] at hc; cases hc
   | true => have := of_decide_eq_true hd; omega
  have hs : (Ov x k).2 = false := by
   rw [decide_eq_true (show (k : Int) < x.a.c.ms.length by omega)] at hc
   cases hq : (Ov x k).2 with
   | false => rfl
   | true => rw [hq] at hc; cases hc
  refine ⟨by omega, λ h => ?_, λ h => ?_⟩
  ·have e : Ov x (k + 1) = (WT (Ov x k).1 (gD (RS x.a) k), decide ((gD (WG x.a.c) k).lo >= x.t)) := by
    show (bif (Ov x k).2 then _ else bif decide _ then _ else _) = _
    rw [hs, decide_eq_true h]; rfl
   refine ⟨by omega, by omega, k + 1, ⟨?_, (FH (by omega)).symm, ?_, ?_, ?_⟩, by omega, by omega⟩ <;> rw [e] <;> rfl
  ·have e : Ov x (k + 1) = Ov x k := by
    show (bif (Ov x k).2 then _ else bif decide _ then _ else _) = _
    rw [hs, decide_eq_false h]; rfl
   refine ⟨k + 1, ⟨?_, (FH (by omega)).symm, ?_, ?_, ?_⟩, by omega, by omega⟩ <;> rw [e]
 ·have e : Ov x x.a.c.ms.length = Ov x k := by
   cases hq : (Ov x k).2 with
   | true =>
    obtain ⟨d, hd⟩ : ∃ d, x.a.c.ms.length = k + d := ⟨x.a.c.ms.length - k, by omega⟩
    rw [hd]; exact AQA hq d
   | false =>
    rw [hq] at hc
    cases hd : decide ((k : Int) < x.a.c.ms.length) with
    | true => rw [hd] at hc; cases hc
    | false =>
     have := of_decide_eq_false hd
     rw [show k = x.a.c.ms.length by omega]
  unfold fsV; rw [e]; exact ⟨rfl, rfl, rfl, rfl⟩
theorem AJU : AK Try.prog N3 (C_First.spec dCZI) := okT C_First (λ (x : CZI) h => by
 have h1 : x.a.c.ms.length < 4611686018427387904 /\ x.a.c.ns.length < 4611686018427387904 /\ x.a.z.length < 4611686018427387904 := h
 by_cases c0 : DK x.a = 0
 ·have e : C_First.val x = .tup [.d (FX (fsV x).s), .bool (fsV x).b, .int (fsV x).e] := by
   show AVal.tup [.d (FX (ZN x).s), .bool (ZN x).b, .int (ZN x).e] = _
   unfold ZN; rw [c0]; rfl
  rw [e]
  exact Rc (A := ARZ x) (L := []) (keep := []) (ren := []) (fz := []) AKT (by kernel_rfl) (AA AFZ (AA ADH (AA ANH AD))) (BCR x h1 c0)
 ·have c0' : (DK x.a == 0) = false := by simpa using c0
  have e : C_First.val x = .tup [.d (FX zSp), .bool false, .int (DK x.a)] := by
   show AVal.tup [.d (FX (ZN x).s), .bool (ZN x).b, .int (ZN x).e] = _
   unfold ZN; rw [c0']; rfl
  rw [e]
  refine Rc (A := ALI) (L := []) (keep := []) (ren := []) (fz := []) AKT (by kernel_rfl) (AA AIE AD) ?_
  show ALC x; rw [ASL]<;> delta KY Aq BA BI FW EX FI CE AC BX CM AQ WF DX ER GP GA HQ HT HC HR DS GB ED TU NG BV BQ FT SA NM Ow Dd EL AE BG AW EO GJ GI AG SV GM NV BF BE UR CK AR VB CN BD AF CG EZ AO CQ BS CV Dc JL CY BO CR AL ZB Ao QX Bc Cl CF AM AT DR AS EG FC PP Db AP FG CS FV TB DF HA FU KG ET AN NY FY FJ EV EJ Hh uI MF HH LR OK GK Df OM HJ MT PN EK QV MD GZ LI AJ PF UE PU SU GN NL VE QC OP NR JR QM JW NK PY XI QJ SB LJ NJ PS SM UN RN YC QQ XW XU Eg XX TG Fv Ih dK; simp only [CC, eq_self, implies_true, forall_const, DN, Cg]
  exact ⟨⟨h1, c0⟩, λ h => by simp [c0] at h⟩) _
end Go.Bal
