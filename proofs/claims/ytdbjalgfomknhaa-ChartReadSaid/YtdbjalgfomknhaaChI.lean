/- Package chart: stages at a time, from a time to another one, and when one is reached. -/
import Derived.Test.YtdbjalgfomknhaaChH
set_option linter.unusedVariables false
set_option linter.unusedSimpArgs false
namespace Go.Bal
open Go Go.Sym Go.Proofs
def zHul : Hul := ⟨⟨0, 0⟩, false⟩
structure CZI where
 a : CZ
 t : Int
def dCZI : List AVal -> Heap -> Option (CZI × List (Nat × Nat) × List Nat)
 | [x, y, .d t], H => match AIZ x H, AEB y H with
  | some (c, f), some (l, e) => some (⟨⟨c, l⟩, FQ t⟩, [], f ++ e)
  | _, _ => none
 | _, _ => none
def xCZI (x : CZI) : List AVal := [.d (aK x.a.c), .d (IN x.a.z), .int x.t]
def UD (a : CZ) : List Span := (HV (JB a)).1
theorem AKP (h : Hul) : Hul.mk h.s h.m = h := rfl
theorem BBB (a : CZ) : (HV (JB a)).1 = UD a := rfl
theorem vL {a : CZ} (h : FO a = 0) : (UD a).length = a.c.ms.length := by
 have h3 := (Vl h).2.2
 unfold UD
 unfold HV at h3 ⊢
 rw [dH] at h3 ⊢
 cases hs : Hn a.c with
 | false => rw [hs] at h3; cases h3
 | true => show (Ry _ _).length = _; unfold Ry; rw [rng_length, PP]
theorem Sx (c : Cht) : (FK c).length = c.ms.length := rng_length _ _
def L1 (a : CZ) (t : Int) : Nat -> Hul
 | 0 => zHul
 | k + 1 => bif TM t (gD (UD a) k).lo (gD (UD a) k).hi then Cz (L1 a t k) (gD (FK a.c) k) else L1 a t k
def sE (a : CZ) (t : Int) (g : Nat) : Bool := (Ry (JB a) (vY (UD a) ((g : Int) + 1) (wr (t - 1)) (wr (t + 1)))).all Ps
def V3 (a : CZ) (t : Int) : Nat -> Hul
 | 0 => L1 a t a.c.ms.length
 | g + 1 => bif sE a t g then Cz (Cz (V3 a t g) (gD (FK a.c) g)) (gD (FK a.c) (g + 1)) else V3 a t g
def iA (x : CZI) : Hul := bif TM x.t (-100000000) 100000000 then V3 x.a x.t (x.a.c.ms.length - 1) else L1 x.a x.t x.a.c.ms.length
def RJ (x : CZI) : Span × Int := bif FO x.a == 0 then Kt (iA x) else (⟨0, 0⟩, FO x.a)
def C_Stage : Ctr := { α := CZI, xs := xCZI, val := λ x => .tup [.d (IY (RJ x).1), .int (RJ x).2], keep := λ _ => [], pre := λ x => [x.a.c.ms.length < 4611686018427387904 /\ x.a.c.ns.length < 4611686018427387904 /\ x.a.z.length < 4611686018427387904] }
def sgH (x : CZI) (h : Hul) : List (Nat × HCell) := [(201, .live (.box [.int x.t])), (202, .live (.box [.int 0, .int 0])), (203, .live (.box [.bptr 208 0])), (204, .live (.box [.d (CK (UD x.a))])), (205, .live (.box [.d (CK (FK x.a.c))])), (206, .live (hlB h)), (207, .live (.box [.fn (.func N3) [.bptr 206 0] []])), (208, .live (dkB (JB x.a) 209)), (209, .live (dkM (JB x.a)))]
def sg7 (x : CZI) : Shape := { α := Nat, dflt := 0, T := λ k => ⟨[(5, .bptr 201 0), (6, .bptr 202 0), (8, .bptr 203 0), (9, .bptr 204 0), (10, .bptr 205 0), (12, .bptr 206 0), (13, .bptr 207 0), (32, .int x.a.c.ms.length), (33, .int k)], sgH x (L1 x.a x.t k)⟩, inv := λ k => k <= x.a.c.ms.length, meas := λ k => x.a.c.ms.length - k, first := [(201, 1016), (202, 1032), (203, 2128), (204, 2144), (205, 2160), (206, 5000), (207, 6016), (208, 2032), (209, 2033)] }
def sg1 (x : CZI) (l : Nat) : Shape := { α := Nat, dflt := 0, T := λ g => ⟨[(0, .fn (.yield l) [] []), (1, .bptr 14016 0), (12, .int (wr ((x.a.c.ms.length : Int) - 1))), (13, .int g)], sgH x (V3 x.a x.t g) ++ [(14016, .live (.box [.bptr 208 0]))]⟩, inv := λ g => g <= x.a.c.ms.length - 1, meas := λ g => 50 - g }
noncomputable def itSg (x : CZI) : IterAnn := { fn := dX, code := AL dX, live := [5, 6, 8, 9, 10, 12, 13], ann := { base := λ id => 100000 + 1000 * (id + 1), Γ := Sym.look [], E := [201, 202, 203, 204, 205, 206, 207, 208, 209, 14016], n := 66, inner := λ gs id => if id = 1 then some [sg1 x (gs.getD 0 0)] else none } }
noncomputable def AWO (x : CZI) : Ann := { ann 92 [(Sv, C_rdO.spec dCZ), (N8, s_in), (N3, C_hadd.spec dHuS), (AIC, C_gaps.spec D6), (G2, C_part.spec dDkQ), (Ro, C_nar.spec dDkS), (K9, C_who.spec dHu1)] with iter := λ g => if g = We then some (itSg x) else none, loops := λ id => if id = 7 then some [sg7 x] else none }
def APX : Ann := ann 92 [(Sv, C_rdX.spec dCZ)]
def AXX (x : CZI) : Prop := CR Try.prog (AWO x) I8 (AL I8) (xCZI x) (AE []) (.tup [.d (IY (Kt (iA x)).1), .int (Kt (iA x)).2]) [] [] []
abbrev HS:=CZI.a
abbrev PZ:=CZI.t
abbrev XK a:=Hul.mk (Du a) (Dx a)
abbrev WC a b:=L1 (HS a) (PZ a) b
abbrev Om a:=Ev (XK a)
abbrev ACB a b c:=aS a b c b
abbrev Eu a b:=Du (WC a b)
abbrev LP a b:=V3 (HS a) (PZ a) b
abbrev VL a b:=Du (LP a b)
abbrev FF a:=DU (HS a)
abbrev Ar a b c:=Ly a b CU c
abbrev WF a b c (d:Nat->Prop) e:=AK a b c (AF d) e
abbrev OM a:=UI (HS a)
abbrev fO a b:=FU a (UI b)
abbrev UZ a b:=fO a (HS b)
abbrev AQ a:=FJ (HS a)
abbrev Og a b:=LV (Dx a) (Dx b)
abbrev MP a b:=Pj (FF a) b
abbrev YI a b:=CD (MP a b)
abbrev OQ a:=XL (FF a)
abbrev Nr a:=IC (OQ a)
abbrev LW a:=UD (HS a)
abbrev Oy a:=LL (LW a)
abbrev Ny a:=IC (LW a)
abbrev Es a:=AJ (PZ a)
abbrev Ij a:=AJG a 1
abbrev Ak a b:=Xy (XK a) b
abbrev Nk a:=BV (FF a)
abbrev YN a:=BK (HS a)
abbrev JS a b:=HZ a (CG b)
abbrev Jx a:=YX (HS a)
abbrev Kp a b:=UL (HS a) b
abbrev fU a b:=WW (HS a) b
attribute [go_sem] HS PZ XK WC Om ACB Eu LP VL FF Ar WF OM fO UZ AQ Og MP YI OQ Nr LW Oy Ny Es Ij Ak Nk YN JS Jx Kp fU
theorem BDA (x : CZI) : (AXX x) = (WJ (AK (AT (FF x)) (AW (FF x)) (AV (FF x)) (BA (FF x)) (FM (BB (FF x)) (BF (FF x)) (BM (FF x)) (SD (HS x) (FF x)) (λ i=>MG i (HS x) (fU x i) (Kp x i) (EE (Kp x i))) (OA (HS x)) (λ i=>PH i (HS x)) (PQ (FF x) (HS x)) (EV (Jx x)))) (IF (λ i=>WE (And (JS (Nk x) (GY (Cr (HS x)))) (Ar (CY i) (Es x) (WF (HT (LW x) (Cr (HS x))) (AF (λ j=>TE j (LW x) j (Cr (HS x)))) (HT (OQ x) (XL (SP (HS x)))) (λ j=>JN j (OQ x) (MP x j) (Pj (SP (HS x)) j)) (AN (Ga (Eu x i)) (Ay (Eu x i)) (EX (Dx (WC x i))) (RZ (AQ x) (YN x)) (SH (AQ x) (YN x)) (SC (AQ x) (YN x)) (RG (AQ x) (YN x)) (RR (AQ x) (YN x)) (LI (RL (AQ x) (YN x)) (λ j=>RQ j (AQ x) (RF (AQ x) j (YN x) j) j (YN x) j) (SB (AQ x) (YN x)) (λ j=>EP j (AQ x) (SK (SF (AQ x) j (YN x) j) (AQ x) j (AP (YN x) j) j (AO (YN x) j) (AM (YN x) j))) (λ j=>XH j (ID (OM x) j) (ID (NR (HS x)) j)) BI (DF (λ j=>UX (AQ x) j (YN x) j)) (λ j=>VD (OM x) j (NR (HS x)) j) (λ j=>VF (KB (AQ x) j) (YN x) j (KU (AQ x) j) (AQ x) j)))))) i (Nk x))) (λ i=>IR (MN i (Nk x)) i (ND (FF x)) (MR (JA i (LW x)) (CG i) (GY (LW x))) (DH (TM (PZ x) (PO (LW x) i) (LU (LW x) i)) (DA (JA i (OQ x)) (YI x i) (BO (MP x i)) (QP (WC x i)) (BO (Eu x i)) (Aa (WC x i))) (IF (λ j=>YZ (And (RD (FF x)) (Ar (CJ j i) (Es x) (WF (Ny x) (Oy x) (Nr x) (λ k=>TS k (OQ x) (YI x k) (MP x k)) (DP (BT (Eu x j) (Ak (WC x i) (MP x i))) (BJ (Eu x j) (Ak (WC x i) (MP x i))) (EK (Dx (WC x j))) (AQ x) (λ k=>UZ k x) (OM x))))) j (Nk x) j i)) (IF (λ j=>YZ (And (RD (FF x)) (Ar (CJ j i) (Es x) (WF (Ny x) (Oy x) (Nr x) (λ k=>TS k (OQ x) (YI x k) (MP x k)) (DP (BT (Eu x j) (Eu x i)) (BJ (Eu x j) (Eu x i)) (Og (WC x j) (WC x i)) (AQ x) (λ k=>UZ k x) (OM x))))) j (Nk x) j i))) (DH (TM (PZ x) (-100000000) 100000000) (BH (AT (AQ x)) (AW (AQ x)) (AV (AQ x)) (FX (BA (AQ x)) (BB (AQ x)) (BF (AQ x)) (BM (AQ x)) (CA (AQ x)) (AF (λ j=>BC j (AQ x) (BG (AQ x) j) (BD (AQ x) j) (AP (AQ x) j) (AZ (AQ x) j) (AO (AQ x) j) (BE (AQ x) j) (AM (AQ x) j))) (λ j=>UZ j x) BI (JO (EN (AQ x)) (HB (OM x)) (EM (AQ x)) (AQ x) (LI (DQ (AQ x)) (λ j=>DT j (AQ x)) (DK (AQ x)) (λ j=>DX j (AQ x)) (λ j=>UZ j x) BI (EY (AQ x)) (λ j=>JY (OM x) j) (λ j=>TZ (AQ x) j))))) (AF (λ j=>NL (λ k=>WE (AH (XY j) (AS (wr (Ij (FF x))) (JJ (ND (AQ x)))) (Ar (CY k) (Es x) (WF (Ny x) (Oy x) (Nr x) (λ l=>TS l (OQ x) (YI x l) (MP x l)) (DP (BT (VL x k) (Eu x i)) (BJ (VL x k) (Eu x i)) (Og (LP x k) (WC x i)) (AQ x) (λ l=>UZ l x) (OM x))))) k (Ok (FF x))) (λ k=>CV (MN k (Ok (FF x))) (FG (IM k (wr (Ij (FF x)))) (BH (MR (CS (EH k) (BV (AQ x))) (CG k) (BV (AQ x))) (IW k 40) (OU k 40) (FG (ID (OM x) k) (AH (BU j) (AH (Aw (LW x)) (AF (λ l=>OH l (LW x) l)) (JO (AJ (EH k)) (AJ (JJ (PZ x))) (AJ (EF (PZ x))) (AQ x) (KO (BF (AQ x)) (λ l=>CE l (AQ x)) (CA (AQ x)) (λ l=>BC l (AQ x) (BG (AQ x) l) (BD (AQ x) l) (AP (AQ x) l) (AZ (AQ x) l) (AO (AQ x) l) (BE (AQ x) l) (AM (AQ x) l)) (λ l=>UZ l x) BI (EN (AQ x)) (λ l=>JY (OM x) l) (AN (EM (AQ x)) (AT (AQ x)) (AW (AQ x)) (AV (AQ x)) (BA (AQ x)) (BB (AQ x)) (DQ (AQ x)) (FI (AQ x)) (NN (DK (AQ x)) (EJ (AQ x)) (λ l=>UZ l x) (EY (AQ x)) (OM x) (GC (AQ x)) (QR (And (JX (JH (LW x))) (UQ (JH (LW x)))) (EH k) (Yj (EH k) (JH (LW x)))) (QK (Aw (Ow (LW x) (EH k) (PZ x) (EF (PZ x)))) (AF (λ l=>OH l (Ow (LW x) (EH k) (PZ x) (EF (PZ x))) l)) (AT (AQ x)) (AQ x) (AV (AQ x)) (BF (AQ x)) (NY (AQ x) (λ l=>BC l (AQ x) (BG (AQ x) l) (BD (AQ x) l) (AP (AQ x) l) (AZ (AQ x) l) (AO (AQ x) l) (BE (AQ x) l) (AM (AQ x) l)) (AF (λ l=>UZ l x)) BI (EN (AQ x)) (HB (OM x)) (EM (AQ x)) (RV (AQ x) (AN (EJ (AQ x)) (AF (λ l=>UZ l x)) BI (EY (AQ x)) (HB (OM x)) (GC (AQ x)) (LY (JH (Ow (LW x) (EH k) (PZ x) (EF (PZ x)))) (AQ x)) (QO (AQ x)) (MD (AQ x))))))))))) (MV (pQ (Vn (ZX (DG (AQ x)) (OM x)) (UJ (Ow (LW x) (EH k) (PZ x) (EF (PZ x))))) Ps) (JE (DA (JA k (OQ x)) (YI x k) (BO (MP x k)) (QP (LP x k)) (BO (VL x k)) (Aa (LP x k))) (CS (EH k) (GY (OQ x))) (AK (YI x (UK k)) (BO (MP x (UK k))) (QP (Cz (XK (LP x k)) (MP x k))) (BO (Ak (LP x k) (MP x k))) IZ) (IF (λ l=>Cg (AH (XY j) (Gl (Ij (FF x))) (Ar (CJ l k) (Es x) (WF (Ny x) (Oy x) (Nr x) (λ m=>TS m (OQ x) (YI x m) (MP x m)) (DP (BT (VL x l) (Ak (Cz (XK (LP x k)) (MP x k)) (MP x (UK k)))) (BJ (VL x l) (Ak (Cz (XK (LP x k)) (MP x k)) (MP x (UK k)))) (EK (Dx (LP x l))) (AQ x) (λ m=>UZ m x) (OM x))))) l (Ok (FF x)) 50 l k))) (λ l=>Cg (AH (XY j) (Gl (Ij (FF x))) (Ar (CJ l k) (Es x) (WF (Ny x) (Oy x) (Nr x) (λ m=>TS m (OQ x) (YI x m) (MP x m)) (DP (BT (VL x l) (VL x k)) (BJ (VL x l) (VL x k)) (Og (LP x l) (LP x k)) (AQ x) (λ m=>UZ m x) (OM x))))) l (Ok (FF x)) 50 l k))) (AH (BU j) (AH (Aw (LW x)) (AF (λ l=>OH l (LW x) l)) (JO (AJ (EH k)) (AJ (JJ (PZ x))) (AJ (EF (PZ x))) (AQ x) (KO (BF (AQ x)) (λ l=>CE l (AQ x)) (CA (AQ x)) (λ l=>BC l (AQ x) (BG (AQ x) l) (BD (AQ x) l) (AP (AQ x) l) (AZ (AQ x) l) (AO (AQ x) l) (BE (AQ x) l) (AM (AQ x) l)) (λ l=>UZ l x) BI (EN (AQ x)) (λ l=>JY (OM x) l) (AN (EM (AQ x)) (AT (AQ x)) (AW (AQ x)) (AV (AQ x)) (BA (AQ x)) (BB (AQ x)) (DQ (AQ x)) (FI (AQ x)) (NN (DK (AQ x)) (EJ (AQ x)) (λ l=>UZ l x) (EY (AQ x)) (OM x) (GC (AQ x)) (QR (And (JX (JH (LW x))) (UQ (JH (LW x)))) (EH k) (Yj (EH k) (JH (LW x)))) (QK (Aw (Ow (LW x) (EH k) (PZ x) (EF (PZ x)))) (AF (λ l=>OH l (Ow (LW x) (EH k) (PZ x) (EF (PZ x))) l)) (AT (AQ x)) (AQ x) (AV (AQ x)) (BF (AQ x)) (NY (AQ x) (λ l=>BC l (AQ x) (BG (AQ x) l) (BD (AQ x) l) (AP (AQ x) l) (AZ (AQ x) l) (AO (AQ x) l) (BE (AQ x) l) (AM (AQ x) l)) (AF (λ l=>UZ l x)) BI (EN (AQ x)) (HB (OM x)) (EM (AQ x)) (RV (AQ x) (AN (EJ (AQ x)) (AF (λ l=>UZ l x)) BI (EY (AQ x)) (HB (OM x)) (GC (AQ x)) (LY (JH (Ow (LW x) (EH k) (PZ x) (EF (PZ x)))) (AQ x)) (QO (AQ x)) (MD (AQ x))))))))))) (MV (pQ (Vn (ZX (DG (AQ x)) (OM x)) (UJ (Ow (LW x) (EH k) (PZ x) (EF (PZ x))))) Ps) (JE (DA (JA k (OQ x)) (YI x k) (BO (MP x k)) (QP (LP x k)) (BO (VL x k)) (Aa (LP x k))) (CS (EH k) (GY (OQ x))) (AK (YI x (UK k)) (BO (MP x (UK k))) (QP (Cz (XK (LP x k)) (MP x k))) (BO (Ak (LP x k) (MP x k))) IZ) (IF (λ l=>Cg (AH (XY j) (Gl (Ij (FF x))) (Ar (CJ l k) (Es x) (WF (Ny x) (Oy x) (Nr x) (λ m=>TS m (OQ x) (YI x m) (MP x m)) (DP (BT (VL x l) (Ak (Cz (XK (LP x k)) (MP x k)) (MP x (UK k)))) (BJ (VL x l) (Ak (Cz (XK (LP x k)) (MP x k)) (MP x (UK k)))) (EK (Dx (LP x l))) (AQ x) (λ m=>UZ m x) (OM x))))) l (Ok (FF x)) 50 l k))) (λ l=>Cg (AH (XY j) (Gl (Ij (FF x))) (Ar (CJ l k) (Es x) (WF (Ny x) (Oy x) (Nr x) (λ m=>TS m (OQ x) (YI x m) (MP x m)) (DP (BT (VL x l) (VL x k)) (BJ (VL x l) (VL x k)) (Og (LP x l) (LP x k)) (AQ x) (λ m=>UZ m x) (OM x))))) l (Ok (FF x)) 50 l k))))) (BH (And (QP (LP x k)) (ACB (BO (VL x k)) (Aa (LP x k)) (QP (LP x k)))) (BT (Ev (iA x)) (Om (LP x k))) (BJ (Ev (iA x)) (Om (LP x k))) (AS (Fe (iA x)) (Fe (XK (LP x k))))))))) (BH (And (QP (WC x i)) (ACB (BO (Eu x i)) (Aa (WC x i)) (QP (WC x i)))) (BT (Ev (iA x)) (Om (WC x i))) (BJ (Ev (iA x)) (Om (WC x i))) (AS (Fe (iA x)) (Fe (XK (WC x i)))))))) := by kernel_rfl
def AQO (x : CZI) : Prop := CR Try.prog APX I8 (AL I8) (xCZI x) (AE []) (.tup [.d (IY zSp), .int (FO x.a)]) [] [] []
theorem BAA (x : CZI) : (AQO x) = (JR (AT (FF x)) (AW (FF x)) (AV (FF x)) (BA (FF x)) (FM (BB (FF x)) (BF (FF x)) (BM (FF x)) (SD (HS x) (FF x)) (λ i=>MG i (HS x) (fU x i) (Kp x i) (EE (Kp x i))) (OA (HS x)) (λ i=>PH i (HS x)) (PQ (FF x) (HS x)) (PJ (Jx x))) (YB (IE (Jx x)) (ZT CU (Bz (HS x) (Jx x))))) := by kernel_rfl
theorem BJJ (x : CZI) (h1 : x.a.c.ms.length < 4611686018427387904 /\ x.a.c.ns.length < 4611686018427387904 /\ x.a.z.length < 4611686018427387904) (c0 : FO x.a = 0) : AXX x := by
 have tl := vL c0
 have sl := Sx x.a.c
 have hl := PE (Vl c0).1
 obtain ⟨_, ⟨n1, n2⟩, _⟩ := hl
 have w1 : wr ((x.a.c.ms.length : Int) - 1) = ((x.a.c.ms.length - 1 : Nat) : Int) := by unfold wr; rw [NU (by omega) (by omega)]; omega
 have w2 : IntKind.i64.wrap ((x.a.c.ms.length : Int) - 1) = ((x.a.c.ms.length - 1 : Nat) : Int) := w1
 have po : ∀ g : Nat, (Ry (JB x.a) (vY (UD x.a) ((g : Int) + 1) (IntKind.i64.wrap (x.t - 1)) (IntKind.i64.wrap (x.t + 1)))).all Ps = sE x.a x.t g := λ _ => rfl
 rw [BDA]<;> delta LV He CI CH FE PS SI Pt EE FH CL GY AF CV DC AS IA CG UB CW FG PD HU KV UC MT JT HP GG IQ IV IX JU GZ GM HK LC IF Eb pQ FV ET XS LX HX OE DF MA MN AG ID DU YR UI XL Vn Td Dx Du Rd Zn HS PZ AH DD EL EW GS AK FJ BN BQ UL CF SO AJ HR GI EQ BU FT aS ACB Ly BJ KB AN AM BV AZ CD Hc BR JD BL AO ACL DZ JI EI AQ NO DV DI CB GN AT BB GO EP HD BO Mt DG DY AP BT BA ED AW BE XT FZ Ua LZ CX Pi AV FN GF FA DB KP CM EF NC GR JF KU PN EU GQ HZ BD FF FL wV TY NT BH BI Et EG TW FX IT EK JJ Pj GA UJ CS GD SP BK EH UE GJ EC TS LW JH Fx WX DH OD Be EA CQ FY IW FM MW JE XD JY ND OC IC BC KO MB IL LY Bc BF CA DK Fv FU BG NQ FP ZR HB RA KT KX LJ GT KR QD LI YH JX CJ WW NR NA AJG Dq Gv MP JS CU OY UK Mm EV OU Wq LL PM IM DQ SQ JL LP Iz Jd SK JN DE QN CE BM DT IB DA fO EX VM WP QR CY KZ IZ ME KI UP WQ HT OQ VH XK WC TD JO DX TU EJ JM Jy UU WS PO IR JA MR QK EN FI EY UW MI Ok WT Y3 Ev OM LU UQ fU QP YX Ow DP WK EM MD Kp YN RD YY Nk UV NL Xy TZ GC SD QO MV Eu Bv XY UZ RL Yj Jq RZ SB Cr Aa Cg Ju RR YI VL Es Fe Ks YZ OA PQ PH TA Kq Rf SC SH RG UX RF SF WJ WE Ak Jx VD Om Gl RE Ay OH Aw ZX RH MG WF Nr Ar Oy Ny Ij RV NN VF RQ XH Og Ga TE NY; simp only [CC, eq_self, implies_true, forall_const, DW, Rm, dH, Sr, aQ, AKP, BBB]; simp only [tl, sl, w1, w2, aR]
 have e1 : ∀ k, TM x.t (gD (UD x.a) k).lo (gD (UD x.a) k).hi = true -> L1 x.a x.t (k + 1) = Cz (L1 x.a x.t k) (gD (FK x.a.c) k) := λ k h => by
  show (bif TM x.t (gD (UD x.a) k).lo (gD (UD x.a) k).hi then _ else _) = _; rw [h]; rfl
 have e0 : ∀ k, TM x.t (gD (UD x.a) k).lo (gD (UD x.a) k).hi = false -> L1 x.a x.t (k + 1) = L1 x.a x.t k := λ k h => by
  show (bif TM x.t (gD (UD x.a) k).lo (gD (UD x.a) k).hi then _ else _) = _; rw [h]; rfl
 have f1 : ∀ g, sE x.a x.t g = true -> V3 x.a x.t (g + 1) = Cz (Cz (V3 x.a x.t g) (gD (FK x.a.c) g)) (gD (FK x.a.c) (g + 1)) := λ g h => by
  show (bif sE x.a x.t g then _ else _) = _; rw [h]; rfl
 have f0 : ∀ g, sE x.a x.t g = false -> V3 x.a x.t (g + 1) = V3 x.a x.t g := λ g h => by
  show (bif sE x.a x.t g then _ else _) = _; rw [h]; rfl
 refine ⟨⟨h1, c0⟩, ⟨0, ⟨trivial, rfl, rfl, rfl, rfl⟩, Nat.zero_le _⟩, λ k hk => ⟨λ hlt => ⟨by omega, λ hin => ⟨by omega, k + 1, ⟨(MO (by omega)).symm, ?_, ?_, ?_⟩, by omega, by omega⟩, λ hin => ⟨k + 1, ⟨(MO (by omega)).symm, ?_, ?_, ?_⟩, by omega, by omega⟩⟩, λ hge => ⟨λ ht => ⟨⟨0, ⟨trivial, rfl, ?_, ?_, ?_⟩, Nat.zero_le _⟩, λ g hg => ⟨λ hlt => ?_, λ hgg => ?_⟩⟩, λ ht => ?_⟩⟩⟩
 ·rw [e1 k hin]
 ·rw [e1 k hin]
 ·rw [e1 k hin]; rfl
 ·rw [e0 k hin]
 ·rw [e0 k hin]
 ·rw [e0 k hin]
 ·obtain rfl : k = x.a.c.ms.length := by omega
  rfl
 ·obtain rfl : k = x.a.c.ms.length := by omega
  rfl
 ·obtain rfl : k = x.a.c.ms.length := by omega
  rfl
 ·have hlt : g < x.a.c.ms.length - 1 := by omega
  have ew : IntKind.i64.wrap ((g : Int) + 1) = (g : Int) + 1 := by rw [MO (by omega)]; rfl
  have tn : ((g : Int) + 1).toNat = g + 1 := by omega
  have ec : ((g + 1 : Nat) : Int) = (g : Int) + 1 := rfl
  simp only [ew, tn, po]
  have body : ((((0 : Nat) < x.a.c.ms.length /\ x.a.c.ms.length <= 40) /\ 0 <= (g : Int) + 1 /\ (g : Int) + 1 <= x.a.c.ms.length)) := ⟨⟨by omega, by omega⟩, by omega, by omega⟩
  refine ⟨⟨⟨by omega, by omega⟩, by omega, by omega⟩, ⟨by omega, by omega⟩, by omega, λ _ => ?_, λ _ => ?_⟩ <;>
  ·refine ⟨⟨body, trivial, by omega, n2⟩, λ h => ⟨⟨by omega, by omega⟩, ⟨by omega, by omega⟩, g + 1, ⟨ec, ?_, ?_, ?_⟩, by omega, by omega⟩, λ h => ⟨g + 1, ⟨ec, ?_, ?_, ?_⟩, by omega, by omega⟩⟩
   ·rw [f1 g h]
   ·rw [f1 g h]
   ·rw [f1 g h]; rfl
   ·rw [f0 g h]
   ·rw [f0 g h]
   ·rw [f0 g h]
 ·obtain rfl : g = x.a.c.ms.length - 1 := by omega
  have : iA x = V3 x.a x.t (x.a.c.ms.length - 1) := by unfold iA; rw [ht]; rfl
  rw [this]; exact ⟨rfl, rfl, rfl⟩
 ·obtain rfl : k = x.a.c.ms.length := by omega
  have : iA x = L1 x.a x.t x.a.c.ms.length := by unfold iA; rw [ht]; rfl
  rw [this]; exact ⟨rfl, rfl, rfl⟩
def In (x : CZI) : Nat -> Hul × Bool
 | 0 => (zHul, false)
 | k + 1 => bif (In x k).2 then In x k else bif decide ((gD (FK x.a.c) k).hi >= x.t) then (Cz (In x k).1 (gD (UD x.a) k), decide ((gD (FK x.a.c) k).lo >= x.t)) else In x k
structure FsR where
 s : Span
 b : Bool
 e : Int
def fsV (x : CZI) : FsR := ⟨(Kt (In x x.a.c.ms.length).1).1, bif (In x x.a.c.ms.length).2 then (Kt (In x x.a.c.ms.length).1).2 == 0 else false, (Kt (In x x.a.c.ms.length).1).2⟩
def JP (x : CZI) : FsR := bif FO x.a == 0 then fsV x else ⟨⟨0, 0⟩, false, FO x.a⟩
def C_First : Ctr := { α := CZI, xs := xCZI, val := λ x => .tup [.d (IY (JP x).s), .bool (JP x).b, .int (JP x).e], keep := λ _ => [], pre := λ x => [x.a.c.ms.length < 4611686018427387904 /\ x.a.c.ns.length < 4611686018427387904 /\ x.a.z.length < 4611686018427387904] }
def fs7 (x : CZI) : Shape := { α := Nat, dflt := 0, T := λ k => ⟨[(2, .int x.t), (6, .bptr 202 0), (10, .d (CK (UD x.a))), (11, .d (CK (FK x.a.c))), (13, .bptr 206 0), (14, .bool (In x k).2), (15, .int k)], [(202, .live (.box [.int 0, .int 0])), (206, .live (hlB (In x k).1))]⟩, inv := λ k => k <= x.a.c.ms.length, meas := λ k => x.a.c.ms.length - k, first := [(202, 1016), (206, 5000)] }
def AWY (x : CZI) : Ann := { ann 69 [(Sv, C_rdO.spec dCZ), (N3, C_hadd.spec dHuS), (K9, C_who.spec dHu1)] with loops := λ id => if id = 7 then some [fs7 x] else none }
def ARQ : Ann := ann 69 [(Sv, C_rdX.spec dCZ)]
def AVI (x : CZI) : Prop := CR Try.prog (AWY x) G0 (AL G0) (xCZI x) (AE []) (.tup [.d (IY (fsV x).s), .bool (fsV x).b, .int (fsV x).e]) [] [] []
abbrev ACA:=@Prod.snd Hul Bool
abbrev K5:=FsR.e
abbrev Ht a b:=(@Prod.fst Hul Bool) (In a b)
abbrev Oo a b:=Du (Ht a b)
attribute [go_sem] ACA K5 Ht Oo
theorem BBO (x : CZI) : (AVI x) = (WJ (AK (AT (FF x)) (AW (FF x)) (AV (FF x)) (BA (FF x)) (FM (BB (FF x)) (BF (FF x)) (BM (FF x)) (SD (HS x) (FF x)) (λ i=>MG i (HS x) (fU x i) (Kp x i) (EE (Kp x i))) (OA (HS x)) (λ i=>PH i (HS x)) (PQ (FF x) (HS x)) (EV (Jx x)))) (IF (λ i=>WE (HF (Es x) (HT (LW x) (Cr (HS x))) (AF (λ j=>TE j (LW x) j (Cr (HS x)))) (HT (OQ x) (XL (SP (HS x)))) (AF (λ j=>JN j (OQ x) (MP x j) (Pj (SP (HS x)) j))) (EX (ACA (In x i))) (CY i) (WY CU (Ga (Oo x i)) (Ay (Oo x i)) (EX (Dx (Ht x i))))) i (Nk x))) (λ i=>KZ (MN i (Nk x)) (Ae (IM i (LB (LW x))) (ACA (In x i))) (JA i (OQ x)) (MV (bO (CH (MP x i)) (PZ x)) (AH (DA (JA i (LW x)) (Fx (LW x) i) (BO (IA (LW x) i)) (QP (Ht x i)) (BO (Oo x i)) (Aa (Ht x i))) (JA i (OQ x)) (IF (λ j=>YZ (HF (Es x) (Ny x) (Oy x) (Nr x) (AF (λ k=>TS k (OQ x) (YI x k) (MP x k))) (LV (ACA (In x j)) (bO (CI (MP x i)) (PZ x))) (CJ j i) (WY CU (BT (Oo x j) (Ak (Ht x i) (IA (LW x) i))) (BJ (Oo x j) (Ak (Ht x i) (IA (LW x) i))) (EK (Dx (Ht x j))))) j (Nk x) j i))) (λ j=>YZ (HF (Es x) (Ny x) (Oy x) (Nr x) (AF (λ k=>TS k (OQ x) (YI x k) (MP x k))) (LV (ACA (In x j)) (ACA (In x i))) (CJ j i) (WY CU (BT (Oo x j) (Oo x i)) (BJ (Oo x j) (Oo x i)) (Og (Ht x j) (Ht x i)))) j (Nk x) j i)) (DZ (And (QP (Ht x i)) (ACB (BO (Oo x i)) (Aa (Ht x i)) (QP (Ht x i)))) (BT (FsR.s (fsV x)) (Om (Ht x i))) (FsR.s (fsV x)) (Om (Ht x i)) (LV (FsR.b (fsV x)) (GB (ACA (In x i)) (XR (Fe (XK (Ht x i)))))) (AS (K5 (fsV x)) (Fe (XK (Ht x i))))))) := by kernel_rfl
def APT (x : CZI) : Prop := CR Try.prog ARQ G0 (AL G0) (xCZI x) (AE []) (.tup [.d (IY zSp), .bool false, .int (FO x.a)]) [] [] []
abbrev Cy:=FT He
attribute [go_sem] Cy
theorem AZD (x : CZI) : (APT x) = (JR (AT (FF x)) (AW (FF x)) (AV (FF x)) (BA (FF x)) (FM (BB (FF x)) (BF (FF x)) (BM (FF x)) (SD (HS x) (FF x)) (λ i=>MG i (HS x) (fU x i) (Kp x i) (EE (Kp x i))) (OA (HS x)) (λ i=>PH i (HS x)) (PQ (FF x) (HS x)) (PJ (Jx x))) (YB (IE (Jx x)) (BH CU CU Cy (Bz (HS x) (Jx x))))) := by kernel_rfl
theorem ARC : AR Try.prog ADR (C_Stage.spec dCZI) := okT C_Stage (λ (x : CZI) h => by
 have h1 : x.a.c.ms.length < 4611686018427387904 /\ x.a.c.ns.length < 4611686018427387904 /\ x.a.z.length < 4611686018427387904 := h
 by_cases c0 : FO x.a = 0
 ·have e : C_Stage.val x = .tup [.d (IY (Kt (iA x)).1), .int (Kt (iA x)).2] := by
   show AVal.tup [.d (IY (RJ x).1), .int (RJ x).2] = _
   unfold RJ; rw [c0]; rfl
  rw [e]
  exact Ky (A := AWO x) (L := []) (keep := []) (ren := []) (fz := []) AQN (by kernel_rfl) (AC AMO (AC ABM (AC ANA (AC ALH (AC AWS (AC ATC (AC AUS AI))))))) (BJJ x h1 c0) (BHI We (itSg x) rfl rfl AI AEU (by kernel_rfl) (by kernel_rfl))
 ·have c0' : (FO x.a == 0) = false := by simpa using c0
  have e : C_Stage.val x = .tup [.d (IY zSp), .int (FO x.a)] := by
   show AVal.tup [.d (IY (RJ x).1), .int (RJ x).2] = _
   unfold RJ; rw [c0']; rfl
  rw [e]
  refine Ky (A := APX) (L := []) (keep := []) (ren := []) (fz := []) AQN (by kernel_rfl) (AC AMD AI) ?_
  show AQO x; rw [BAA]<;> delta CI CH FE EE FH CL AF CV DC AS UB FG JT HP GG IQ IV IX JU GZ GM HK LC FV ET XS PX OW DU YR HS AH DD EL EW GS AK BN BQ UL CF SO AJ GI EQ ZT BJ AN BV CD Hc BR JD BL DZ EI DI CB GN AT BB BO Mt DY BT BA ED AW LZ Pi AV GF FA CM GR GQ FF FL EG GD SP GJ EC OD EA CQ FY FM OC IL BF Fv NQ GT QD WW Gv CU Mm JL CE BM IB IE fU YX Kp YY JR UV SD PJ OA PQ PH TA Jx RH MG Bz YB; simp only [CC, eq_self, implies_true, forall_const, DW, Sr]
  exact ⟨⟨h1, c0⟩, λ h => by simp [c0] at h⟩) _
theorem AXG {x : CZI} {k : Nat} (h : (In x k).2 = true) : ∀ d, In x (k + d) = In x k
 | 0 => rfl
 | d + 1 => by
  have ih := AXG h d
  show (bif (In x (k + d)).2 then In x (k + d) else _) = _
  rw [ih, h]; rfl
theorem BLG (x : CZI) (h1 : x.a.c.ms.length < 4611686018427387904 /\ x.a.c.ns.length < 4611686018427387904 /\ x.a.z.length < 4611686018427387904) (c0 : FO x.a = 0) : AVI x := by
 have tl := vL c0
 have sl := Sx x.a.c
 obtain ⟨_, ⟨n1, n2⟩, _⟩ := PE (Vl c0).1
 rw [BBO]<;> delta LV bO He CI CH FE PS SI EE FH CL GY AF CV DC AS IA CG UB FG PD HU KV UC MT JT HP GG IQ IV IX JU GZ GM HK LC IF FV ET XS Lv LX MN DU YR UI XL Td Dx Du Rd Zn HS PZ ACA K5 AH DD EL EW GS AK BN BQ UL CF SO AJ GI EQ BU FT aS WY ACB BJ AN BV CD Hc BR JD BL DZ JI EI DI CB GN AT BB GO BO Mt DY BT BA ED AW FZ LZ CX Pi AV GF FA CM EF GR JF GQ HZ FF FL NT BH EG EK Pj CS GD SP EH GJ EC TS LW Fx DH OD EA CQ FY IW FM OC IC IL BF Fv NQ ZR GT QD CJ WW NR NA Gv MP CU OY Mm EV Ht Wq LL PM IM SQ JL JN CE BM IB DA EX GB CY KZ HF HT OQ VH XK TD JA LB WT Ev fU QP YX Kp YY Nk UV Xy SD MV Cr Aa Cg YI Es Fe YZ OA PQ PH TA Oo XR WJ WE Ak Ae Jx Om Ay RH MG Nr Oy Ny Og Ga TE; simp only [CC, eq_self, implies_true, forall_const, DW, Rm, dH, Sr, aQ, AKP, BBB]; simp only [tl, sl]
 refine ⟨⟨h1, c0⟩, ⟨0, ⟨rfl, rfl, rfl, rfl, rfl⟩, Nat.zero_le _⟩, λ k hk => ⟨λ hc => ?_, λ hc => ?_⟩⟩
 ·have hlt : k < x.a.c.ms.length := by
   cases hd : decide ((k : Int) < x.a.c.ms.length) with
   | false => rw [hd] at hc; cases hc
   | true => have := of_decide_eq_true hd; omega
  have hs : (In x k).2 = false := by
   rw [decide_eq_true (show (k : Int) < x.a.c.ms.length by omega)] at hc
   cases hq : (In x k).2 with
   | false => rfl
   | true => rw [hq] at hc; cases hc
  refine ⟨by omega, λ h => ?_, λ h => ?_⟩
  ·have e : In x (k + 1) = (Cz (In x k).1 (gD (UD x.a) k), decide ((gD (FK x.a.c) k).lo >= x.t)) := by
    show (bif (In x k).2 then _ else bif decide _ then _ else _) = _
    rw [hs, decide_eq_true h]; rfl
   refine ⟨by omega, by omega, k + 1, ⟨?_, (MO (by omega)).symm, ?_, ?_, ?_⟩, by omega, by omega⟩ <;> rw [e] <;> rfl
  ·have e : In x (k + 1) = In x k := by
    show (bif (In x k).2 then _ else bif decide _ then _ else _) = _
    rw [hs, decide_eq_false h]; rfl
   refine ⟨k + 1, ⟨?_, (MO (by omega)).symm, ?_, ?_, ?_⟩, by omega, by omega⟩ <;> rw [e]
 ·have e : In x x.a.c.ms.length = In x k := by
   cases hq : (In x k).2 with
   | true =>
    obtain ⟨d, hd⟩ : ∃ d, x.a.c.ms.length = k + d := ⟨x.a.c.ms.length - k, by omega⟩
    rw [hd]; exact AXG hq d
   | false =>
    rw [hq] at hc
    cases hd : decide ((k : Int) < x.a.c.ms.length) with
    | true => rw [hd] at hc; cases hc
    | false =>
     have := of_decide_eq_false hd
     rw [show k = x.a.c.ms.length by omega]
  unfold fsV; rw [e]; exact ⟨rfl, rfl, rfl, rfl⟩
theorem AQP : AR Try.prog ADL (C_First.spec dCZI) := okT C_First (λ (x : CZI) h => by
 have h1 : x.a.c.ms.length < 4611686018427387904 /\ x.a.c.ns.length < 4611686018427387904 /\ x.a.z.length < 4611686018427387904 := h
 by_cases c0 : FO x.a = 0
 ·have e : C_First.val x = .tup [.d (IY (fsV x).s), .bool (fsV x).b, .int (fsV x).e] := by
   show AVal.tup [.d (IY (JP x).s), .bool (JP x).b, .int (JP x).e] = _
   unfold JP; rw [c0]; rfl
  rw [e]
  exact Ky (A := AWY x) (L := []) (keep := []) (ren := []) (fz := []) APR (by kernel_rfl) (AC AMO (AC ANA (AC AUS AI))) (BLG x h1 c0)
 ·have c0' : (FO x.a == 0) = false := by simpa using c0
  have e : C_First.val x = .tup [.d (IY zSp), .bool false, .int (FO x.a)] := by
   show AVal.tup [.d (IY (JP x).s), .bool (JP x).b, .int (JP x).e] = _
   unfold JP; rw [c0']; rfl
  rw [e]
  refine Ky (A := ARQ) (L := []) (keep := []) (ren := []) (fz := []) APR (by kernel_rfl) (AC AMD AI) ?_
  show APT x; rw [AZD]<;> delta LV He CI CH FE EE FH CL AF CV DC AS UB FG JT HP GG IQ IV IX JU GZ GM HK LC FV ET XS PX OW DU YR HS AH DD EL EW GS AK BN BQ UL CF SO AJ GI EQ FT BJ AN BV CD Hc BR JD BL DZ EI DI CB GN AT BB BO Mt DY BT BA ED AW LZ Pi AV GF FA CM GR GQ FF FL BH EG GD SP GJ EC OD EA CQ FY FM OC IL BF Fv NQ GT QD WW Gv CU Mm JL CE BM IB IE fU YX Kp YY JR UV SD Cy PJ OA PQ PH TA Jx RH MG Bz YB; simp only [CC, eq_self, implies_true, forall_const, DW, Sr]
  exact ⟨⟨h1, c0⟩, λ h => by simp [c0] at h⟩) _
end Go.Bal
