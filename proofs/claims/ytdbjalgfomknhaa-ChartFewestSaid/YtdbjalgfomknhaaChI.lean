/- Package chart: stages at a time, from a time to another one, and when one is reached. -/
import Derived.Test.YtdbjalgfomknhaaChH
set_option linter.unusedVariables false
set_option linter.unusedSimpArgs false
namespace Go.Bal
open Go Go.Sym Go.Proofs
def zHul : Hul := ⟨⟨0, 0⟩, false⟩
structure CZI where
 a : CZ
 t : Int
def dCZI : List AVal -> Heap -> Option (CZI × List (Nat × Nat) × List Nat)
 | [x, y, .d t], H => match AVK x H, BPS y H with
  | some (c, f), some (l, e) => some (⟨⟨c, l⟩, JQ t⟩, [], f ++ e)
  | _, _ => none
 | _, _ => none
def xCZI (x : CZI) : List AVal := [.d (Rc x.a.c), .d (GQ x.a.z), .int x.t]
def tmL (a : CZ) : List Span := (HG (WL a)).1
theorem BGN (h : Hul) : Hul.mk h.s h.m = h := rfl
theorem BVQ (a : CZ) : (HG (WL a)).1 = tmL a := rfl
theorem BIC {a : CZ} (h : EE a = 0) : (tmL a).length = a.c.ms.length := by
 have h3 := (APD h).2.2
 unfold tmL
 unfold HG at h3 ⊢
 rw [J2] at h3 ⊢
 cases hs : ZC a.c with
 | false => rw [hs] at h3; cases h3
 | true => show (nS _ _).length = _; unfold nS; rw [rng_length, Ro]
theorem mI (c : Cht) : (Lr c).length = c.ms.length := rng_length _ _
def hul1 (a : CZ) (t : Int) : Nat -> Hul
 | 0 => zHul
 | k + 1 => bif Fw t (gD (tmL a) k).lo (gD (tmL a) k).hi then Wu (hul1 a t k) (gD (Lr a.c) k) else hul1 a t k
def BDS (a : CZ) (t : Int) (g : Nat) : Bool := (nS (WL a) (parL (tmL a) ((g : Int) + 1) (wr (t - 1)) (wr (t + 1)))).all jN
def hul2 (a : CZ) (t : Int) : Nat -> Hul
 | 0 => hul1 a t a.c.ms.length
 | g + 1 => bif BDS a t g then Wu (Wu (hul2 a t g) (gD (Lr a.c) g)) (gD (Lr a.c) (g + 1)) else hul2 a t g
def stgH (x : CZI) : Hul := bif Fw x.t (-100000000) 100000000 then hul2 x.a x.t (x.a.c.ms.length - 1) else hul1 x.a x.t x.a.c.ms.length
def O3 (x : CZI) : Span × Int := bif EE x.a == 0 then whoM (stgH x) else (⟨0, 0⟩, EE x.a)
def C_Stage : Ctr := { α := CZI, xs := xCZI, val := λ x => .tup [.d (JS (O3 x).1), .int (O3 x).2], keep := λ _ => [], pre := λ x => [x.a.c.ms.length < 4611686018427387904 /\ x.a.c.ns.length < 4611686018427387904 /\ x.a.z.length < 4611686018427387904] }
def sgH (x : CZI) (h : Hul) : List (Nat × HCell) := [(201, .live (.box [.int x.t])), (202, .live (.box [.int 0, .int 0])), (203, .live (.box [.bptr 208 0])), (204, .live (.box [.d (DW (tmL x.a))])), (205, .live (.box [.d (DW (Lr x.a.c))])), (206, .live (hlB h)), (207, .live (.box [.fn (.func ATZ) [.bptr 206 0] []])), (208, .live (dkB (WL x.a) 209)), (209, .live (dkM (WL x.a)))]
def sg7 (x : CZI) : Shape := { α := Nat, dflt := 0, T := λ k => ⟨[(5, .bptr 201 0), (6, .bptr 202 0), (8, .bptr 203 0), (9, .bptr 204 0), (10, .bptr 205 0), (12, .bptr 206 0), (13, .bptr 207 0), (32, .int x.a.c.ms.length), (33, .int k)], sgH x (hul1 x.a x.t k)⟩, inv := λ k => k <= x.a.c.ms.length, meas := λ k => x.a.c.ms.length - k, first := [(201, 1016), (202, 1032), (203, 2128), (204, 2144), (205, 2160), (206, 5000), (207, 6016), (208, 2032), (209, 2033)] }
def sg1 (x : CZI) (l : Nat) : Shape := { α := Nat, dflt := 0, T := λ g => ⟨[(0, .fn (.yield l) [] []), (1, .bptr 14016 0), (12, .int (wr ((x.a.c.ms.length : Int) - 1))), (13, .int g)], sgH x (hul2 x.a x.t g) ++ [(14016, .live (.box [.bptr 208 0]))]⟩, inv := λ g => g <= x.a.c.ms.length - 1, meas := λ g => 50 - g }
noncomputable def itSg (x : CZI) : IterAnn := { fn := AOU, code := AP AOU, live := [5, 6, 8, 9, 10, 12, 13], ann := { base := λ id => 100000 + 1000 * (id + 1), Γ := Sym.look [], E := [201, 202, 203, 204, 205, 206, 207, 208, 209, 14016], n := 66, inner := λ gs id => if id = 1 then some [sg1 x (gs.getD 0 0)] else none } }
noncomputable def BRP (x : CZI) : Ann := { ann 92 [(Ot, C_rdO.spec dCZ), (n_in, s_in), (ATZ, C_hadd.spec dHuS), (BFT, C_gaps.spec dDk1), (APJ, C_part.spec dDkQ), (Yv, C_nar.spec dDkS), (ANK, C_who.spec dHu1)] with iter := λ g => if g = AES then some (itSg x) else none, loops := λ id => if id = 7 then some [sg7 x] else none }
def BJD : Ann := ann 92 [(Ot, C_rdX.spec dCZ)]
def BQZ (x : CZI) : Prop := DN Try.prog (BRP x) ANU (AP ANU) (xCZI x) (AH []) (.tup [.d (JS (whoM (stgH x)).1), .int (whoM (stgH x)).2]) [] [] []
abbrev JR:=CZI.a
abbrev Ae:=CZI.t
abbrev ZR a b c d e:=BZ a b (AI c d e)
abbrev Ch a:=Hul.mk (Ip a) (Im a)
abbrev An a b:=hul1 (JR a) (Ae a) b
abbrev Ui a:=Jt (Ch a)
abbrev AVJ a b c:=mR a b c b
abbrev Mf a b:=Ip (An a b)
abbrev NU a b:=hul2 (JR a) (Ae a) b
abbrev ZS a b:=Ip (NU a b)
abbrev LQ a:=OB (JR a)
abbrev Ij a:=BY (LQ a)
abbrev AX a:=IN (JR a)
abbrev Jn a b:=NK (AX a) b
abbrev JM a:=Le (JR a)
abbrev Sy a b:=MF (Im a) (Im b)
abbrev IZ a b:=We (LQ a) b
abbrev Bw a b:=CJ (IZ a b)
abbrev ZE a:=TF (LQ a)
abbrev Ue a:=MO (ZE a)
abbrev KJ a:=tmL (JR a)
abbrev Us a:=KX (KJ a)
abbrev Uf a:=MO (KJ a)
abbrev Kf a:=AM (Ae a)
abbrev Eg a b:=jP (Ch a) b
abbrev Tj a:=DR (ZE a)
abbrev En a:=EY (Ae a)
abbrev Xy a b:=MG a (Ij b)
abbrev Bs a:=CK (JR a)
abbrev oZ a:=MZ (JR a)
abbrev Po a:=RE (JR a)
abbrev tF a b:=Lh (JR a) b
abbrev sX a b:=Mo (JR a) b
attribute [go_sem] JR Ae ZR Ch An Ui AVJ Mf NU ZS LQ Ij AX Jn JM Sy IZ Bw ZE Ue KJ Us Uf Kf Eg Tj En Xy Bs oZ Po tF sX
theorem CAN (x : CZI) : (BQZ x) = (ZU (WU (LQ x) (DO (AW (LQ x)) (BR (LQ x)) (CW (LQ x)) (TA (JR x) (LQ x)) (λ i=>VY i (JR x) (sX x i) (tF x i)) (MH (JR x)) (λ i=>OK i (JR x)) (VR (LQ x) (JR x)) (DK (Po x)))) (GY (λ i=>BZ (PZ (Ij x) (DR (Hr (JR x)))) (Bh (CF i) (Kf x) BM (LO (KJ x) (Hr (JR x))) (ZH (DR (KJ x)) (KJ x) (Hr (JR x))) (LO (ZE x) (TF (oZ x))) (AK (λ j=>PI j (Tj x) (ZE x) (GK (TF (oZ x)) j) (IZ x j) (We (oZ x) j))) (AO (DK (BU (Mf x i))) (Ex (Mf x i)) (HF (Im (An x i))) (PC (AX x) (Bs x)) (OX (AX x) (Bs x)) (PR (AX x) (Bs x)) (PO (AX x) (Bs x)) (PH (AX x) (Bs x)) (OG (RP (AX x) (Bs x)) (λ j=>RO j (AX x) j (Bs x) j j) (RR (AX x) (Bs x)) (λ j=>FV j (AX x) (CR (Bs x) j) (DQ (Bs x) j) (BG (Bs x) j) (WR (AX x) j (Bs x) j) (WA (AX x) j (Bs x) j)) (λ j=>Hz j (KO (JM x) j) (KO (RS (JR x)) j)) BC (BI (λ j=>XO (AX x) j (Bs x) j)) (λ j=>Ep (OE (JM x) j) (RS (JR x)) j) (λ j=>MM (Jn x j) (NK (Bs x) j))))) (Xy i x))) (λ i=>CU (Xy i x) i (ZY (LQ x)) (JL (Ey (BW i) (DR (KJ x)) i (BW i)) (Fw (Ae x) (GK (KJ x) i) (US (KJ x) i)) (IH i (Tj x) (AN (Bw x i) (BL (IZ x i)) (UM (An x i)) (BL (Mf x i)) (Ev (An x i)))) (GY (λ j=>DC (And (Bb (LQ x)) (Bh (BT j i) (Kf x) BM (Uf x) (Us x) (Ue x) (AK (λ k=>QT k (ZE x) (Bw x k) (IZ x k))) (LI (GV (Mf x j) (Eg (An x i) (IZ x i))) (BJ (Mf x j) (Eg (An x i) (IZ x i))) (GX (Im (An x j))) (AX x) (IF (AX x) (JM x) (λ k=>Jn x k))))) (Xy j x) (Ij x) j i)) (GY (λ j=>DC (And (Bb (LQ x)) (Bh (BT j i) (Kf x) BM (Uf x) (Us x) (Ue x) (AK (λ k=>QT k (ZE x) (Bw x k) (IZ x k))) (LI (GV (Mf x j) (Mf x i)) (BJ (Mf x j) (Mf x i)) (Sy (An x j) (An x i)) (AX x) (IF (AX x) (JM x) (λ k=>Jn x k))))) (Xy j x) (Ij x) j i))) (FX (Fw (Ae x) (-100000000) 100000000) (MC (BA (AX x)) (AZ (AX x)) (BE (AX x)) (KM (BD (AX x)) (AW (AX x)) (BR (AX x)) (CW (AX x)) (DF (AX x)) (MY (AX x)) (λ j=>LP j (JM x)) BC (LI (EV (AX x)) (EC (JM x)) (BI (λ j=>FG (AX x) j (Jn x j))) (AX x) (OG (DA (AX x)) (λ j=>HN j (AX x)) (DB (AX x)) (λ j=>CQ j (AX x)) (λ j=>LP j (JM x)) BC (EQ (AX x)) (λ j=>QQ (JM x) j) (λ j=>FF (Jn x j) (AX x) j)))) (AK (λ j=>NQ (λ k=>Am (Ni j) (AU (wr (jK (LQ x) 1)) (TT (ZY (AX x)))) (Bh (CF k) (Kf x) BM (Uf x) (Us x) (Ue x) (AK (λ l=>QT l (ZE x) (Bw x l) (IZ x l))) (LI (GV (ZS x k) (Mf x i)) (BJ (ZS x k) (Mf x i)) (Sy (NU x k) (An x i)) (AX x) (IF (AX x) (JM x) (λ l=>Jn x l)))) (MG k (Av (Ij x)))) (λ k=>CU (MG k (Av (Ij x))) k (wr (jK (LQ x) 1)) (BQ (Ey (DU k) (BY (AX x)) k (BW k)) (YG k 40) (NT k 40) (FX (KO (JM x) k) (AI (BV j) (JO (Kc (KJ x)) (λ l=>QJ l (LF (KJ x)) (PX (KJ x)) (KJ x)) (LI (AM (DU k)) (AM (TT (Ae x))) (AM (En x)) (AX x) (PF (BR (AX x)) (λ l=>CH l (AX x)) (DF (AX x)) (λ l=>BP l (AX x)) (λ l=>LP l (JM x)) (EV (AX x)) (JM x) (AO (BI (λ l=>FG (AX x) l (Jn x l))) (BA (AX x)) (AZ (AX x)) (BE (AX x)) (BD (AX x)) (AW (AX x)) (DA (AX x)) (HO (AX x)) (DJ (DB (AX x)) (λ l=>CQ l (AX x)) (EP (JM x)) BC (EQ (AX x)) (EC (JM x)) (BI (λ l=>FF (Jn x l) (AX x) l)) (AI (QO (LF (KJ x)) 40) (DI (DU k)) (Cg (DU k) (LF (KJ x)))) (DJ (Kc (Ei (KJ x) (DU k) (Ae x) (En x))) (λ l=>QJ l (LF (Ei (KJ x) (DU k) (Ae x) (En x))) (PX (Ei (KJ x) (DU k) (Ae x) (En x))) (Ei (KJ x) (DU k) (Ae x) (En x))) (BA (AX x)) (AZ (AX x)) (BE (AX x)) (BD (AX x)) (AW (AX x)) (BR (AX x)) (QU (λ l=>CH l (AX x)) (AX x) (λ l=>BP l (AX x)) (EP (JM x)) BC (EV (AX x)) (EC (JM x)) (λ l=>FG (AX x) l (Jn x l)) (MJ (AX x) (QR (λ l=>CQ l (AX x)) (EP (JM x)) BC (EQ (AX x)) (EC (JM x)) (λ l=>FF (Jn x l) (AX x) l) (YL (Ei (KJ x) (DU k) (Ae x) (En x)) (CY (AX x))) (UA (AX x)) (PA (AX x))))))))))) (ZT (yP (Zc (Wf (CV (AX x)) (JM x)) (PX (Ei (KJ x) (DU k) (Ae x) (En x)))) jN) (IH k (Tj x) (AN (Bw x k) (BL (IZ x k)) (UM (NU x k)) (BL (ZS x k)) (Ev (NU x k)))) (EW (DU k) (Tj x) (AN (Bw x (Fu k)) (BL (IZ x (Fu k))) (UM (Wu (Ch (NU x k)) (IZ x k))) (BL (Eg (NU x k) (IZ x k))) GP)) (GY (λ l=>DC (AI (Ni j) (AM (wr (jK (LQ x) 1))) (Bh (BT l k) (Kf x) BM (Uf x) (Us x) (Ue x) (AK (λ m=>QT m (ZE x) (Bw x m) (IZ x m))) (LI (GV (ZS x l) (Eg (Wu (Ch (NU x k)) (IZ x k)) (IZ x (Fu k)))) (BJ (ZS x l) (Eg (Wu (Ch (NU x k)) (IZ x k)) (IZ x (Fu k)))) (GX (Im (NU x l))) (AX x) (IF (AX x) (JM x) (λ m=>Jn x m))))) (MG l (Av (Ij x))) 50 l k)) (GY (λ l=>DC (AI (Ni j) (AM (wr (jK (LQ x) 1))) (Bh (BT l k) (Kf x) BM (Uf x) (Us x) (Ue x) (AK (λ m=>QT m (ZE x) (Bw x m) (IZ x m))) (LI (GV (ZS x l) (ZS x k)) (BJ (ZS x l) (ZS x k)) (Sy (NU x l) (NU x k)) (AX x) (IF (AX x) (JM x) (λ m=>Jn x m))))) (MG l (Av (Ij x))) 50 l k)))) (AI (BV j) (JO (Kc (KJ x)) (λ l=>QJ l (LF (KJ x)) (PX (KJ x)) (KJ x)) (LI (AM (DU k)) (AM (TT (Ae x))) (AM (En x)) (AX x) (PF (BR (AX x)) (λ l=>CH l (AX x)) (DF (AX x)) (λ l=>BP l (AX x)) (λ l=>LP l (JM x)) (EV (AX x)) (JM x) (AO (BI (λ l=>FG (AX x) l (Jn x l))) (BA (AX x)) (AZ (AX x)) (BE (AX x)) (BD (AX x)) (AW (AX x)) (DA (AX x)) (HO (AX x)) (DJ (DB (AX x)) (λ l=>CQ l (AX x)) (EP (JM x)) BC (EQ (AX x)) (EC (JM x)) (BI (λ l=>FF (Jn x l) (AX x) l)) (AI (QO (LF (KJ x)) 40) (DI (DU k)) (Cg (DU k) (LF (KJ x)))) (DJ (Kc (Ei (KJ x) (DU k) (Ae x) (En x))) (λ l=>QJ l (LF (Ei (KJ x) (DU k) (Ae x) (En x))) (PX (Ei (KJ x) (DU k) (Ae x) (En x))) (Ei (KJ x) (DU k) (Ae x) (En x))) (BA (AX x)) (AZ (AX x)) (BE (AX x)) (BD (AX x)) (AW (AX x)) (BR (AX x)) (QU (λ l=>CH l (AX x)) (AX x) (λ l=>BP l (AX x)) (EP (JM x)) BC (EV (AX x)) (EC (JM x)) (λ l=>FG (AX x) l (Jn x l)) (MJ (AX x) (QR (λ l=>CQ l (AX x)) (EP (JM x)) BC (EQ (AX x)) (EC (JM x)) (λ l=>FF (Jn x l) (AX x) l) (YL (Ei (KJ x) (DU k) (Ae x) (En x)) (CY (AX x))) (UA (AX x)) (PA (AX x))))))))))) (ZT (yP (Zc (Wf (CV (AX x)) (JM x)) (PX (Ei (KJ x) (DU k) (Ae x) (En x)))) jN) (IH k (Tj x) (AN (Bw x k) (BL (IZ x k)) (UM (NU x k)) (BL (ZS x k)) (Ev (NU x k)))) (EW (DU k) (Tj x) (AN (Bw x (Fu k)) (BL (IZ x (Fu k))) (UM (Wu (Ch (NU x k)) (IZ x k))) (BL (Eg (NU x k) (IZ x k))) GP)) (GY (λ l=>DC (AI (Ni j) (AM (wr (jK (LQ x) 1))) (Bh (BT l k) (Kf x) BM (Uf x) (Us x) (Ue x) (AK (λ m=>QT m (ZE x) (Bw x m) (IZ x m))) (LI (GV (ZS x l) (Eg (Wu (Ch (NU x k)) (IZ x k)) (IZ x (Fu k)))) (BJ (ZS x l) (Eg (Wu (Ch (NU x k)) (IZ x k)) (IZ x (Fu k)))) (GX (Im (NU x l))) (AX x) (IF (AX x) (JM x) (λ m=>Jn x m))))) (MG l (Av (Ij x))) 50 l k)) (GY (λ l=>DC (AI (Ni j) (AM (wr (jK (LQ x) 1))) (Bh (BT l k) (Kf x) BM (Uf x) (Us x) (Ue x) (AK (λ m=>QT m (ZE x) (Bw x m) (IZ x m))) (LI (GV (ZS x l) (ZS x k)) (BJ (ZS x l) (ZS x k)) (Sy (NU x l) (NU x k)) (AX x) (IF (AX x) (JM x) (λ m=>Jn x m))))) (MG l (Av (Ij x))) 50 l k)))))) (ZR (UM (NU x k)) (AVJ (BL (ZS x k)) (Ev (NU x k)) (UM (NU x k))) (GV (Jt (stgH x)) (Ui (NU x k))) (BJ (Jt (stgH x)) (Ui (NU x k))) (AU (Lx (stgH x)) (Lx (Ch (NU x k))))))))) (ZR (UM (An x i)) (AVJ (BL (Mf x i)) (Ev (An x i)) (UM (An x i))) (GV (Jt (stgH x)) (Ui (An x i))) (BJ (Jt (stgH x)) (Ui (An x i))) (AU (Lx (stgH x)) (Lx (Ch (An x i)))))))) := by kernel_rfl
def BJH (x : CZI) : Prop := DN Try.prog BJD ANU (AP ANU) (xCZI x) (AH []) (.tup [.d (JS zSp), .int (EE x.a)]) [] [] []
theorem BSV (x : CZI) : (BJH x) = (EX (WU (LQ x) (DO (AW (LQ x)) (BR (LQ x)) (CW (LQ x)) (TA (JR x) (LQ x)) (λ i=>VY i (JR x) (sX x i) (tF x i)) (MH (JR x)) (λ i=>OK i (JR x)) (VR (LQ x) (JR x)) (OY (Po x)))) (PK (Po x)) (Cr BM (Ju (JR x) (Po x))) JY) := by kernel_rfl
theorem CCL (x : CZI) (h1 : x.a.c.ms.length < 4611686018427387904 /\ x.a.c.ns.length < 4611686018427387904 /\ x.a.z.length < 4611686018427387904) (c0 : EE x.a = 0) : BQZ x := by
 have tl := BIC c0
 have sl := mI x.a.c
 have hl := QE (APD c0).1
 obtain ⟨_, ⟨n1, n2⟩, _⟩ := hl
 have w1 : wr ((x.a.c.ms.length : Int) - 1) = ((x.a.c.ms.length - 1 : Nat) : Int) := by unfold wr; rw [PE (by omega) (by omega)]; omega
 have w2 : IntKind.i64.wrap ((x.a.c.ms.length : Int) - 1) = ((x.a.c.ms.length - 1 : Nat) : Int) := w1
 have po : ∀ g : Nat, (nS (WL x.a) (parL (tmL x.a) ((g : Int) + 1) (IntKind.i64.wrap (x.t - 1)) (IntKind.i64.wrap (x.t + 1)))).all jN = BDS x.a x.t g := λ _ => rfl
 rw [CAN]<;> delta MF Sw BU CO FM TP WF Ua FQ FP CL DR AK CA DD AU ML BW Aj GM FX WN KZ KB XF NR IV HC HA HZ ID IA JD GN FW FY GY Wy yP PB JW PY BI NH MG AQ OE DX DE KO OB NJ Le TF Zc Im Ip AGU AVW JR Ae AI BG DV EN GF AN IN BO XE BK Lh CG BJ BB BY AO AM HS FZ BL BV ED mR AVJ Bh UZ NK CS GS CD IW CJ CX DM AZ IY CR CY DP EU Kg XC CV DH BA AW AX HD Fs DQ GJ GG EA LU EI gU HY DG Na BD FS EJ FU KR GU R8 BE EH ER OZ EY FR OO EM DI BZ IE HM MN GC HI KP EF DU EO GI LQ DS BC KY XD FH LB HQ GK GR JG HR GX PX Wf MZ CK KU PP GO PZ FI LC Ab FT JU LF TL Mo Bf LD JX QC IR KM TT We Ac LG GD NL JH ZY VO BQ KJ OT BT NG WV Jn LV SJ MK DK DO LR OG HB BR DC DF Fq LP IL IP IS IM JZ PL QX EL CH MX MO OC ME NF RC NM RB Fu QA OF Kq VK KD WQ By RS BM DB DA MM BS CW QQ QT OH NO Av CU SY EC JO JN NA EW PI JK QK BP MB jK EX GV HF IZ GP WG Gf JJ NU An FV MQ HN KX UR VX EP YC CF EV XS ZE JM DJ FF UI Ch IF Az CQ FG ASS LO US EQ RE sX QJ RF tF Ij Jt UW IH UU PA Br NT ZO UM WE QO Ud HO JL Bs TA YL Hi PJ MY Cg Hg MC Ei NQ ZH Gg PC PH jP UA Bb LI MH TN Hn VQ PO OX PR RP RR Mf YG Hr Ev OK VY XO Bw ZS Kf Lx ZR WA Dh MJ VR WR Eg Po En Ni Am Ui Ex WU Gv ZU Xy Ue Us Tj Uf ZT Ey RO Hz QU QR Ep oZ Ez Kc Sy PF; simp only [CC, eq_self, implies_true, forall_const, EB, Ts, J2, Of, AAY, BGN, BVQ]; simp only [tl, sl, w1, w2, mY]
 have e1 : ∀ k, Fw x.t (gD (tmL x.a) k).lo (gD (tmL x.a) k).hi = true -> hul1 x.a x.t (k + 1) = Wu (hul1 x.a x.t k) (gD (Lr x.a.c) k) := λ k h => by
  show (bif Fw x.t (gD (tmL x.a) k).lo (gD (tmL x.a) k).hi then _ else _) = _; rw [h]; rfl
 have e0 : ∀ k, Fw x.t (gD (tmL x.a) k).lo (gD (tmL x.a) k).hi = false -> hul1 x.a x.t (k + 1) = hul1 x.a x.t k := λ k h => by
  show (bif Fw x.t (gD (tmL x.a) k).lo (gD (tmL x.a) k).hi then _ else _) = _; rw [h]; rfl
 have f1 : ∀ g, BDS x.a x.t g = true -> hul2 x.a x.t (g + 1) = Wu (Wu (hul2 x.a x.t g) (gD (Lr x.a.c) g)) (gD (Lr x.a.c) (g + 1)) := λ g h => by
  show (bif BDS x.a x.t g then _ else _) = _; rw [h]; rfl
 have f0 : ∀ g, BDS x.a x.t g = false -> hul2 x.a x.t (g + 1) = hul2 x.a x.t g := λ g h => by
  show (bif BDS x.a x.t g then _ else _) = _; rw [h]; rfl
 refine ⟨⟨h1, c0⟩, ⟨0, ⟨trivial, rfl, rfl, rfl, rfl⟩, Nat.zero_le _⟩, λ k hk => ⟨λ hlt => ⟨by omega, λ hin => ⟨by omega, k + 1, ⟨(HH (by omega)).symm, ?_, ?_, ?_⟩, by omega, by omega⟩, λ hin => ⟨k + 1, ⟨(HH (by omega)).symm, ?_, ?_, ?_⟩, by omega, by omega⟩⟩, λ hge => ⟨λ ht => ⟨⟨0, ⟨trivial, rfl, ?_, ?_, ?_⟩, Nat.zero_le _⟩, λ g hg => ⟨λ hlt => ?_, λ hgg => ?_⟩⟩, λ ht => ?_⟩⟩⟩
 ·rw [e1 k hin]
 ·rw [e1 k hin]
 ·rw [e1 k hin]; rfl
 ·rw [e0 k hin]
 ·rw [e0 k hin]
 ·rw [e0 k hin]
 ·obtain rfl : k = x.a.c.ms.length := by omega
  rfl
 ·obtain rfl : k = x.a.c.ms.length := by omega
  rfl
 ·obtain rfl : k = x.a.c.ms.length := by omega
  rfl
 ·have hlt : g < x.a.c.ms.length - 1 := by omega
  have ew : IntKind.i64.wrap ((g : Int) + 1) = (g : Int) + 1 := by rw [HH (by omega)]; rfl
  have tn : ((g : Int) + 1).toNat = g + 1 := by omega
  have ec : ((g + 1 : Nat) : Int) = (g : Int) + 1 := rfl
  simp only [ew, tn, po]
  have body : ((((0 : Nat) < x.a.c.ms.length /\ x.a.c.ms.length <= 40) /\ 0 <= (g : Int) + 1 /\ (g : Int) + 1 <= x.a.c.ms.length)) := ⟨⟨by omega, by omega⟩, by omega, by omega⟩
  refine ⟨⟨⟨by omega, by omega⟩, by omega, by omega⟩, ⟨by omega, by omega⟩, by omega, λ _ => ?_, λ _ => ?_⟩ <;>
  ·refine ⟨⟨body, trivial, by omega, n2⟩, λ h => ⟨⟨by omega, by omega⟩, ⟨by omega, by omega⟩, g + 1, ⟨ec, ?_, ?_, ?_⟩, by omega, by omega⟩, λ h => ⟨g + 1, ⟨ec, ?_, ?_, ?_⟩, by omega, by omega⟩⟩
   ·rw [f1 g h]
   ·rw [f1 g h]
   ·rw [f1 g h]; rfl
   ·rw [f0 g h]
   ·rw [f0 g h]
   ·rw [f0 g h]
 ·obtain rfl : g = x.a.c.ms.length - 1 := by omega
  have : stgH x = hul2 x.a x.t (x.a.c.ms.length - 1) := by unfold stgH; rw [ht]; rfl
  rw [this]; exact ⟨rfl, rfl, rfl⟩
 ·obtain rfl : k = x.a.c.ms.length := by omega
  have : stgH x = hul1 x.a x.t x.a.c.ms.length := by unfold stgH; rw [ht]; rfl
  rw [this]; exact ⟨rfl, rfl, rfl⟩
def fsM (x : CZI) : Nat -> Hul × Bool
 | 0 => (zHul, false)
 | k + 1 => bif (fsM x k).2 then fsM x k else bif decide ((gD (Lr x.a.c) k).hi >= x.t) then (Wu (fsM x k).1 (gD (tmL x.a) k), decide ((gD (Lr x.a.c) k).lo >= x.t)) else fsM x k
structure FsR where
 s : Span
 b : Bool
 e : Int
def fsV (x : CZI) : FsR := ⟨(whoM (fsM x x.a.c.ms.length).1).1, bif (fsM x x.a.c.ms.length).2 then (whoM (fsM x x.a.c.ms.length).1).2 == 0 else false, (whoM (fsM x x.a.c.ms.length).1).2⟩
def bY (x : CZI) : FsR := bif EE x.a == 0 then fsV x else ⟨⟨0, 0⟩, false, EE x.a⟩
def C_First : Ctr := { α := CZI, xs := xCZI, val := λ x => .tup [.d (JS (bY x).s), .bool (bY x).b, .int (bY x).e], keep := λ _ => [], pre := λ x => [x.a.c.ms.length < 4611686018427387904 /\ x.a.c.ns.length < 4611686018427387904 /\ x.a.z.length < 4611686018427387904] }
def fs7 (x : CZI) : Shape := { α := Nat, dflt := 0, T := λ k => ⟨[(2, .int x.t), (6, .bptr 202 0), (10, .d (DW (tmL x.a))), (11, .d (DW (Lr x.a.c))), (13, .bptr 206 0), (14, .bool (fsM x k).2), (15, .int k)], [(202, .live (.box [.int 0, .int 0])), (206, .live (hlB (fsM x k).1))]⟩, inv := λ k => k <= x.a.c.ms.length, meas := λ k => x.a.c.ms.length - k, first := [(202, 1016), (206, 5000)] }
def BRE (x : CZI) : Ann := { ann 69 [(Ot, C_rdO.spec dCZ), (ATZ, C_hadd.spec dHuS), (ANK, C_who.spec dHu1)] with loops := λ id => if id = 7 then some [fs7 x] else none }
def BJL : Ann := ann 69 [(Ot, C_rdX.spec dCZ)]
def BPY (x : CZI) : Prop := DN Try.prog (BRE x) AON (AP AON) (xCZI x) (AH []) (.tup [.d (JS (fsV x).s), .bool (fsV x).b, .int (fsV x).e]) [] [] []
abbrev AWT:=@Prod.snd Hul Bool
abbrev Ap a b:=(@Prod.fst Hul Bool) (fsM a b)
abbrev Tf a b:=Ip (Ap a b)
attribute [go_sem] AWT Ap Tf
theorem BTJ (x : CZI) : (BPY x) = (ZU (WU (LQ x) (DO (AW (LQ x)) (BR (LQ x)) (CW (LQ x)) (TA (JR x) (LQ x)) (λ i=>VY i (JR x) (sX x i) (tF x i)) (MH (JR x)) (λ i=>OK i (JR x)) (VR (LQ x) (JR x)) (DK (Po x)))) (GY (λ i=>BZ (Kf x) (JO (LO (KJ x) (Hr (JR x))) (λ j=>QJ j (DR (KJ x)) (KJ x) (Hr (JR x))) (cS (LO (ZE x) (TF (oZ x))) (AK (λ j=>PI j (Tj x) (ZE x) (GK (TF (oZ x)) j) (IZ x j) (We (oZ x) j))) (HF (AWT (fsM x i))) (CF i) BM (DK (BU (Tf x i))) (Ex (Tf x i)) (HF (Im (Ap x i))))) (Xy i x))) (λ i=>CA (Xy i x) (FX (II (WN (BW i) (Au (KJ x))) (not (AWT (fsM x i)))) (IH i (Tj x) (ZT (hd6 (CO (IZ x i)) (Ae x)) (IH i (DR (KJ x)) (AN (By (KJ x) i) (BL (ML (KJ x) i)) (UM (Ap x i)) (BL (Tf x i)) (Ev (Ap x i)))) (YG i (Tj x)) (GY (λ j=>DC (BQ (Kf x) (Uf x) (Us x) (cS (Ue x) (AK (λ k=>QT k (ZE x) (Bw x k) (IZ x k))) (MF (AWT (fsM x j)) (hd6 (GK (ZE x) i) (Ae x))) (BT j i) BM (GV (Tf x j) (Eg (Ap x i) (ML (KJ x) i))) (BJ (Tf x j) (Eg (Ap x i) (ML (KJ x) i))) (GX (Im (Ap x j))))) (Xy j x) (Ij x) j i)) (GY (λ j=>DC (BQ (Kf x) (Uf x) (Us x) (cS (Ue x) (AK (λ k=>QT k (ZE x) (Bw x k) (IZ x k))) (MF (AWT (fsM x j)) (AWT (fsM x i))) (BT j i) BM (GV (Tf x j) (Tf x i)) (BJ (Tf x j) (Tf x i)) (Sy (Ap x j) (Ap x i)))) (Xy j x) (Ij x) j i)))) (AN (And (UM (Ap x i)) (AVJ (BL (Tf x i)) (Ev (Ap x i)) (UM (Ap x i)))) (GV (FsR.s (fsV x)) (Ui (Ap x i))) (BJ (FsR.s (fsV x)) (Ui (Ap x i))) (MF (FsR.b (fsV x)) (II (AWT (fsM x i)) (TY (Lx (Ch (Ap x i)))))) (AU (FsR.e (fsV x)) (Lx (Ch (Ap x i)))))))) := by kernel_rfl
def BJO (x : CZI) : Prop := DN Try.prog BJL AON (AP AON) (xCZI x) (AH []) (.tup [.d (JS zSp), .bool false, .int (EE x.a)]) [] [] []
theorem BSO (x : CZI) : (BJO x) = (EX (WU (LQ x) (DO (AW (LQ x)) (BR (LQ x)) (CW (LQ x)) (TA (JR x) (LQ x)) (λ i=>VY i (JR x) (sX x i) (tF x i)) (MH (JR x)) (λ i=>OK i (JR x)) (VR (LQ x) (JR x)) (OY (Po x)))) (PK (Po x)) (BQ BM BM (ED Sw) (Ju (JR x) (Po x))) JY) := by kernel_rfl
theorem CAO : AR Try.prog BFV (C_Stage.spec dCZI) := okT C_Stage (λ (x : CZI) h => by
 have h1 : x.a.c.ms.length < 4611686018427387904 /\ x.a.c.ns.length < 4611686018427387904 /\ x.a.z.length < 4611686018427387904 := h
 by_cases c0 : EE x.a = 0
 ·have e : C_Stage.val x = .tup [.d (JS (whoM (stgH x)).1), .int (whoM (stgH x)).2] := by
   show AVal.tup [.d (JS (O3 x).1), .int (O3 x).2] = _
   unfold O3; rw [c0]; rfl
  rw [e]
  exact Su (A := BRP x) (L := []) (keep := []) (ren := []) (fz := []) BJP (by kernel_rfl) (AC AYS (AC BDP (AC BHY (AC BRH (AC BQW (AC BNQ (AC BMO AL))))))) (CCL x h1 c0) (CFA AES (itSg x) rfl rfl AL BKS (by kernel_rfl) (by kernel_rfl))
 ·have c0' : (EE x.a == 0) = false := by simpa using c0
  have e : C_Stage.val x = .tup [.d (JS zSp), .int (EE x.a)] := by
   show AVal.tup [.d (JS (O3 x).1), .int (O3 x).2] = _
   unfold O3; rw [c0']; rfl
  rw [e]
  refine Su (A := BJD) (L := []) (keep := []) (ren := []) (fz := []) BJP (by kernel_rfl) (AC AZS AL) ?_
  show BJH x; rw [BSV]<;> delta BU CO FM FQ FP CL AK CA DD AU Aj FX IV HC HA HZ ID IA JD GN FW FY WW JY DX DE OB NJ JR AI BG DV EN GF AN BO XE BK Lh CG BJ BB BY AO AM FZ BL Cr UZ CS CD IW CJ CX DM AZ CY DP EU Kg XC DH BA AW GJ EA LU EI DG Na BD GU BE EH ER EM IE HM GC EF GI LQ DS FH GR MZ PP FI LC Mo JX QC GD NL NG DO BR Fq PL QX CH ME NM Kq BM CW EX PK RE sX tF UU ZO TA PJ MH TN VQ OY OK VY Dh VR Po WU Ju; simp only [CC, eq_self, implies_true, forall_const, EB, Of]
  exact ⟨⟨h1, c0⟩, λ h => by simp [c0] at h⟩) _
theorem BOS {x : CZI} {k : Nat} (h : (fsM x k).2 = true) : ∀ d, fsM x (k + d) = fsM x k
 | 0 => rfl
 | d + 1 => by
  have ih := BOS h d
  show (bif (fsM x (k + d)).2 then fsM x (k + d) else _) = _
  rw [ih, h]; rfl
theorem CDQ (x : CZI) (h1 : x.a.c.ms.length < 4611686018427387904 /\ x.a.c.ns.length < 4611686018427387904 /\ x.a.z.length < 4611686018427387904) (c0 : EE x.a = 0) : BPY x := by
 have tl := BIC c0
 have sl := mI x.a.c
 obtain ⟨_, ⟨n1, n2⟩, _⟩ := QE (APD c0).1
 rw [BTJ]<;> delta MF hd6 Sw BU CO FM TP WF FQ FP CL DR AK CA DD AU ML BW Aj FX WN KZ KB XF NR IV HC HA HZ ID IA JD GN FW FY GY Ye PB MG DX DE OB NJ Le TF Im Ip AGU AVW JR Ae AWT AI BG DV EN GF AN BO XE BK Lh CG BJ BB BY AO AM FZ BL BV ED mR cS AVJ UZ CS CD IW CJ CX DM AZ IY CY DP EU Kg XC DH BA AW GJ GG EA LU EI DG Na BD KR GU BE EH ER EY FR EM DI BZ IE HM GC EF DU GI LQ DS FH LB GK GR GX MZ PP FI LC Mo JX QC We GD NL BQ KJ OT BT NG DK DO HB BR DC Fq PL QX CH MO ME NM Kq VK KD By RS BM CW QT SY JO JN EW PI GV HF IZ II Ap Gf MQ KX CF ZE UI Ch Az LO RE TY sX QJ tF Ij Jt IH UU ZO UM TA PJ jP MH TN VQ YG Hr Ev OK VY Au Bw Kf Lx Dh VR Tf Eg Po Ui Ex WU ZU Xy Ue Us Tj Uf ZT oZ Sy; simp only [CC, eq_self, implies_true, forall_const, EB, Ts, J2, Of, AAY, BGN, BVQ]; simp only [tl, sl]
 refine ⟨⟨h1, c0⟩, ⟨0, ⟨rfl, rfl, rfl, rfl, rfl⟩, Nat.zero_le _⟩, λ k hk => ⟨λ hc => ?_, λ hc => ?_⟩⟩
 ·have hlt : k < x.a.c.ms.length := by
   cases hd : decide ((k : Int) < x.a.c.ms.length) with
   | false => rw [hd] at hc; cases hc
   | true => have := of_decide_eq_true hd; omega
  have hs : (fsM x k).2 = false := by
   rw [decide_eq_true (show (k : Int) < x.a.c.ms.length by omega)] at hc
   cases hq : (fsM x k).2 with
   | false => rfl
   | true => rw [hq] at hc; cases hc
  refine ⟨by omega, λ h => ?_, λ h => ?_⟩
  ·have e : fsM x (k + 1) = (Wu (fsM x k).1 (gD (tmL x.a) k), decide ((gD (Lr x.a.c) k).lo >= x.t)) := by
    show (bif (fsM x k).2 then _ else bif decide _ then _ else _) = _
    rw [hs, decide_eq_true h]; rfl
   refine ⟨by omega, by omega, k + 1, ⟨?_, (HH (by omega)).symm, ?_, ?_, ?_⟩, by omega, by omega⟩ <;> rw [e] <;> rfl
  ·have e : fsM x (k + 1) = fsM x k := by
    show (bif (fsM x k).2 then _ else bif decide _ then _ else _) = _
    rw [hs, decide_eq_false h]; rfl
   refine ⟨k + 1, ⟨?_, (HH (by omega)).symm, ?_, ?_, ?_⟩, by omega, by omega⟩ <;> rw [e]
 ·have e : fsM x x.a.c.ms.length = fsM x k := by
   cases hq : (fsM x k).2 with
   | true =>
    obtain ⟨d, hd⟩ : ∃ d, x.a.c.ms.length = k + d := ⟨x.a.c.ms.length - k, by omega⟩
    rw [hd]; exact BOS hq d
   | false =>
    rw [hq] at hc
    cases hd : decide ((k : Int) < x.a.c.ms.length) with
    | true => rw [hd] at hc; cases hc
    | false =>
     have := of_decide_eq_false hd
     rw [show k = x.a.c.ms.length by omega]
  unfold fsV; rw [e]; exact ⟨rfl, rfl, rfl, rfl⟩
theorem CAV : AR Try.prog BGI (C_First.spec dCZI) := okT C_First (λ (x : CZI) h => by
 have h1 : x.a.c.ms.length < 4611686018427387904 /\ x.a.c.ns.length < 4611686018427387904 /\ x.a.z.length < 4611686018427387904 := h
 by_cases c0 : EE x.a = 0
 ·have e : C_First.val x = .tup [.d (JS (fsV x).s), .bool (fsV x).b, .int (fsV x).e] := by
   show AVal.tup [.d (JS (bY x).s), .bool (bY x).b, .int (bY x).e] = _
   unfold bY; rw [c0]; rfl
  rw [e]
  exact Su (A := BRE x) (L := []) (keep := []) (ren := []) (fz := []) BIN (by kernel_rfl) (AC AYS (AC BHY (AC BMO AL))) (CDQ x h1 c0)
 ·have c0' : (EE x.a == 0) = false := by simpa using c0
  have e : C_First.val x = .tup [.d (JS zSp), .bool false, .int (EE x.a)] := by
   show AVal.tup [.d (JS (bY x).s), .bool (bY x).b, .int (bY x).e] = _
   unfold bY; rw [c0']; rfl
  rw [e]
  refine Su (A := BJL) (L := []) (keep := []) (ren := []) (fz := []) BIN (by kernel_rfl) (AC AZS AL) ?_
  show BJO x; rw [BSO]<;> delta MF Sw BU CO FM FQ FP CL AK CA DD AU Aj FX IV HC HA HZ ID IA JD GN FW FY WW JY DX DE OB NJ JR AI BG DV EN GF AN BO XE BK Lh CG BJ BB BY AO AM FZ BL ED UZ CS CD IW CJ CX DM AZ CY DP EU Kg XC DH BA AW GJ EA LU EI DG Na BD GU BE EH ER EM IE HM GC EF GI LQ DS FH GR MZ PP FI LC Mo JX QC GD NL BQ NG DO BR Fq PL QX CH ME NM Kq BM CW EX PK RE sX tF UU ZO TA PJ MH TN VQ OY OK VY Dh VR Po WU Ju; simp only [CC, eq_self, implies_true, forall_const, EB, Of]
  exact ⟨⟨h1, c0⟩, λ h => by simp [c0] at h⟩) _
end Go.Bal
