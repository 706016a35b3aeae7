/- Package chart: the greatest stages from a time to another one. -/
import Derived.Test.YtdbjalgfomknhaaGreatChI
set_option linter.unusedVariables false
set_option linter.unusedSimpArgs false
namespace Go.Bal
open Go Go.Sym Go.Proofs
structure CZ2 where
 a : CZ
 f : Int
 t : Int
structure IJ where
 i : Nat
 j : Nat
 deriving Inhabited
def dCZ2 : List AVal -> Heap -> Option (CZ2 × List (Nat × Nat) × List Nat)
 | [x, y, .d f, .d t], H => match vO x H, G1 y H with
  | some (c, g), some (l, e) => some (⟨⟨c, l⟩, HM f, HM t⟩, [], g ++ e)
  | _, _ => none
 | _, _ => none
def xCZ2 (x : CZ2) : List AVal := [.d (Ef x.a.c), .d (JO x.a.z), .int x.f, .int x.t]
def Te (x : CZ2) : Int := DP x.f (-100000001)
def Td (x : CZ2) : Int := KS x.t 100000001
def aW (x : CZ2) (a b : Nat) : Bool := (YW (GX x.a) (Z1 (RS x.a) (a : Int) (b : Int) (Te x) (Td x))).all Fa
def Tq (x : CZ2) (a b : Nat) : List Span := QR (b + 1 - a) λ i => gD (WG x.a.c) (a + i)
def vW (x : CZ2) (a : Nat) (h : Hul) : Nat -> Hul
 | 0 => h
 | k + 1 => bif aW x a (a + k) then WT (vW x a h k) ⟨gLo (Tq x a (a + k)), gHi (Tq x a (a + k))⟩ else vW x a h k
def Er (x : CZ2) : Nat -> Hul
 | 0 => zHul
 | a + 1 => bif decide (Td x >= Te x) then vW x a (Er x a) (x.a.c.ms.length - a) else Er x a
def jQ (x : CZ2) : Span × Int := bif decide (x.t < x.f) then (⟨0, 0⟩, 4) else Gb (Er x x.a.c.ms.length)
def Kt (x : CZ2) : Span × Int := bif DK x.a == 0 then jQ x else (⟨0, 0⟩, DK x.a)
def C_Peak : Ctr := { α := CZ2, xs := xCZ2, val := λ x => .tup [.d (FX (Kt x).1), .int (Kt x).2], keep := λ _ => [], pre := λ x => [x.a.c.ms.length < 4611686018427387904 /\ x.a.c.ns.length < 4611686018427387904 /\ x.a.z.length < 4611686018427387904] }
def pkS (x : CZ2) (a : Nat) : List (Nat × AVal) := [(2, .int (Te x)), (3, .int (Td x)), (8, .bptr 202 0), (10, .bptr 208 0), (11, .d (DA (RS x.a))), (12, .d (DA (WG x.a.c))), (14, .bptr 206 0), (42, .int x.a.c.ms.length), (43, .int a)]
def pkH (x : CZ2) (h : Hul) : List (Nat × HCell) := [(202, .live (.box [.int 0, .int 0])), (206, .live (hlB h)), (208, .live (dkB (GX x.a) 209)), (209, .live (dkM (GX x.a)))]
def pk9 (x : CZ2) : Shape := { α := Nat, dflt := 0, T := λ a => ⟨pkS x a, pkH x (Er x a)⟩, inv := λ a => a <= x.a.c.ms.length, meas := λ a => x.a.c.ms.length - a, first := [(202, 1016), (206, 8000), (208, 2032), (209, 2033)] }
def pk12 (x : CZ2) (m : Nat) : Shape := { α := IJ, dflt := default, T := λ s => ⟨[(15, .int s.i), (16, .int s.j)] ++ pkS x s.i, pkH x (vW x s.i (Er x s.i) (s.j - s.i))⟩, inv := λ s => s.i < x.a.c.ms.length /\ x.a.c.ms.length - s.i = m /\ s.i <= s.j /\ s.j <= x.a.c.ms.length /\ (s.i < s.j -> Td x >= Te x), meas := λ s => x.a.c.ms.length - s.j }
def AUN (x : CZ2) : Ann := { ann 91 [(Vy, C_rdO.spec dCZ), (AAD, C_win.spec dDkW), (So, C_nar.spec dDkS), (AFX, C_least.spec dN0c), (AMN, C_most.spec dN0c), (fJ, orS (C_grL.spec BGW) (C_grH.spec BKL)), (C5, C_hadd.spec dHuS), (tB, C_who.spec dHu1)] with loops := λ id => if id = 9 then some [pk9 x] else none, inner := λ gs id => if id = 12 then some [pk12 x (gs.getD 0 0)] else none }
def APL : Ann := ann 91 [(Vy, C_rdX.spec dCZ)]
def BAU (x : CZ2) : Prop := CL Try.prog (AUN x) V5 (AH V5) (xCZ2 x) (AB []) (.tup [.d (FX (jQ x).1), .int (jQ x).2]) [] [] []
abbrev GC:=CZ2.a
abbrev iZ:=CZ2.t
abbrev iA:=CZ2.f
abbrev J7:=jQ
abbrev Om:=@Exists IJ
abbrev EW:=IJ.i
abbrev EI:=IJ.j
abbrev ACH:=@GE.ge Int Int.instLEInt
abbrev oR:=λ (f : IJ -> Prop) => ∀ (x : IJ), f x
abbrev EC a:=NV (GC a)
abbrev FA a:=GS (GC a)
abbrev Ud a b:=QU (FA a) b
abbrev Be a:=Iz (GC a)
abbrev AJV a b c:=vW a b (Er a b) c
abbrev uZ a b:=JV a (EW b)
abbrev ID a b:=AJV a (EW b) (uZ (EI b) b)
abbrev IV a:=FT (GC a)
abbrev Kv a:=TT (IV a)
abbrev An a:=RS (GC a)
abbrev Yp a:=IZ (An a)
abbrev Ed a:=NO (An a)
abbrev No a b c:=BE a (EI b) c
abbrev Ms a b:=DH a (EC b)
abbrev Ux a b:=Ms (EI a) b
abbrev Ur a b:=DH (EW a) (EI b)
abbrev TK a b c:=Iq a (EC b) c
abbrev Vz a b:=uZ (EC a) b
abbrev Jn a b:=CM a (EC b)
abbrev Ua a b:=Jn (EW a) b
abbrev Dm a b:=IN (EW a) b
abbrev Mi a b:=Dm a (EW b)
abbrev Pv a b:=BH (EI a) b
abbrev Z7 a b (c:Nat->Nat):=Ak a (λ i=>LU b (c i))
abbrev qZ a b:=QT (EW a) b
abbrev O1 a:=uZ (PT (EI a)) a
abbrev ZO a b c:=Z7 (O1 a) (Kv b) (λ i=>qZ c i)
abbrev Mo a:=BU (EW a)
abbrev Ni a:=BU (EI a)
abbrev dQ a:=PM (An a)
abbrev Ea a:=CU (An a)
abbrev Ec a:=CX (GC a)
abbrev Tl a:=KG (GC a)
abbrev Kj a:=PN (GC a)
abbrev ACB a b:=SV (GC a) b
abbrev Lf a b c d:=YF a (GC b) (ACB c d)
abbrev Lj a b:=PU (GC a) (IV b)
abbrev Mz a b:=PF (GC a) (EC b)
abbrev Fj a:=AT (IV a)
abbrev Ft a:=AS (IV a)
abbrev Aj a:=AP (IV a)
abbrev ZS a:=AL (IV a)
abbrev Ag a:=AM (IV a)
attribute [go_sem] GC iZ iA J7 Om EW EI ACH oR EC FA Ud Be AJV uZ ID IV Kv An Yp Ed No Ms Ux Ur TK Vz Jn Ua Dm Mi Pv Z7 qZ O1 ZO Mo Ni dQ Ea Ec Tl Kj ACB Lf Lj Mz Fj Ft Aj ZS Ag
theorem BEV (x : CZ2) : (BAU x) = (GN (AG (Ag x) (ZS x) (Aj x) (Ft x) (HJ (Fj x) (Mz x x) (RN (GC x) (IV x)) (Lj x x) (λ i=>Lf i x x i) (JR (GC x)) (λ i=>LJ i (GC x)) (TG (GC x)) (Hl (Kj x)))) (IP (iZ x) (iA x)) (AE (Ae (Tb (J7 x))) (PJ (Tb (J7 x))) (Ad (J7 x) 4)) (DY (λ i=>TD (AE (AQ (Te x) (WK (iA x) (-100000001))) (AQ (Td x) (Nm (iZ x) 100000001)) (cR (HO (An x) (Gc (GC x))) (NU (Ea x) (An x) (Gc (GC x))) (HO (Kv x) (TT (Tl x))) (NU (CU (Kv x)) (Kv x) (TT (Tl x))) (IN (EC x) (CU (Gc (GC x)))) (BR i) AJ (AR (Mw (Er x i)) (Mh (Er x i)) (EU (UZ (Er x i))) (Aw (FA x) (Ec x)) (Cj (FA x) (Ec x)) (Bb (FA x) (Ec x)) (By (FA x) (Ec x)) (Bs (FA x) (Ec x)) (QP (Bh (FA x) (Ec x)) (λ j=>LI j (AW (FA x)) (BO (FA x) j) (Ec x) (CF (FA x) j)) (Bu (FA x) (Ec x)) (λ j=>FF j (FA x) (XA (FA x) j (Ec x) j) (DJ (Ec x) j) (XK (FA x) j (Ec x) j) (WH (FA x) j (Ec x) j) (BG (Ec x) j)) (AC (λ j=>Gu j (LW (Be x) j) (LW (VA (GC x)) j))) BL (λ j=>Br (FA x) j (Ec x) j) (λ j=>Bl (Be x) j (VA (GC x)) j) (λ j=>LA (Ud x j) (Rg (GC x) j)))))) i (EC x)) (λ i=>CO (LL i (EC x)) i (EC x) (Om (λ j=>CW (AG (Dm j i) (IN (EI j) i) (AF (Te x)) (AF (Td x)) (cR (Ed x) (Yp x) (NO (Kv x)) (IZ (Kv x)) (BW (EC x)) (Dm j i) AJ (FR (KZ (ID x j) (Er x i)) (LB (ID x j) (Er x i)) (OS (ID x j) (Er x i)) (FA x) (RE (FA x) (Be x) (λ k=>Ud x k))))) (Ua j x) (TK (Vz x j) x i) (Ur j j) (Ux j x) (No (EW j) j (ACH (Td x) (Te x))))) (oR (λ j=>HX (AG (Ua j x) (TK (Vz x j) x i) (Ur j j) (Ux j x) (No (EW j) j (ACH (Td x) (Te x)))) (GH (HG (EI j) (Ea x)) (lI (Td x) (Te x))) (AN (NA (An x) (Ea x)) (VX (An x)) (BW (EW j)) (FR (BW (EI j)) (AF (Te x)) (AF (Td x)) (FA x) (QK (BM (FA x)) (λ k=>AZ k (FA x)) (BK (FA x)) (λ k=>BJ k (FA x)) (Be x) BL (λ k=>NW (FA x) k) (λ k=>MC (Be x) k) (AR (BT (λ k=>HZ (FA x) k (Ud x k))) (AM (FA x)) (AL (FA x)) (AP (FA x)) (AS (FA x)) (AT (FA x)) (CA (FA x)) (KI (FA x)) (MY (BZ (FA x)) (λ k=>CP k (FA x)) (IB (Be x)) (IE (FA x)) (HB (Be x)) (λ k=>JU (Ud x k) (FA x) k) (AN (KJ (MQ (An x)) 40) (DG (EW j) (MQ (An x))) (DC (Ni j)) (DW (Ni j) (MQ (An x)))) (BY (NA (bR (dQ x) (Mo j) (Ni j) (Te x) (Td x)) (CU (bR (dQ x) (Mo j) (Ni j) (Te x) (Td x)))) (λ k=>MJ k (MQ (bR (dQ x) (Mo j) (Ni j) (Te x) (Td x))) (PM (bR (dQ x) (Mo j) (Ni j) (Te x) (Td x))) (bR (dQ x) (Mo j) (Ni j) (Te x) (Td x))) (AM (FA x)) (AL (FA x)) (AP (FA x)) (AS (FA x)) (AT (FA x)) (BM (FA x)) (DO (λ k=>AZ k (FA x)) (BK (FA x)) (λ k=>BJ k (FA x)) (IB (Be x)) BL (PH (FA x)) (HB (Be x)) (BT (λ k=>HZ (FA x) k (Ud x k))) (YL (FA x) (BY (UM (FA x)) (λ k=>QZ k (Be x)) BL (IE (FA x)) (HB (Be x)) (BT (λ k=>JU (Ud x k) (FA x) k)) (NA (bR (dQ x) (Mo j) (Ni j) (Te x) (Td x)) (EN (FA x))) (WO (FA x)) (UD (FA x))))))))))) (DV (kH (Xb (Rm (EH (FA x)) (Be x)) (PM (bR (dQ x) (Mo j) (Ni j) (Te x) (Td x)))) Fa) (AG (AE (DC (Mo j)) (HD (Mo j) (CJ (EI j))) (ZM (CJ (EI j)) (CU (Kv x)))) (LO (ZO j x j) (O1 j)) (AC (λ k=>RP k (CU (ZO j x j)) (ZO j x j) (Kv x) (qZ j k) (qZ j k))) (And (MB (CU (ZO j x j))) (OB (CU (ZO j x j)))) (IY (AE (DC (Mo j)) (HD (Mo j) (CJ (EI j))) (ZM (CJ (EI j)) (CU (Kv x)))) (LO (ZO j x j) (O1 j)) (λ k=>RP k (CU (ZO j x j)) (ZO j x j) (Kv x) (qZ j k) (qZ j k)) (And (MB (CU (ZO j x j))) (OB (CU (ZO j x j)))) (AF (gLo (ZO j x j))) (AF (gHi (ZO j x j))) (UI (ID x j)) (ZV (ID x j)) (Lw (ID x j)))) (Om (λ k=>DU (AG (Mi k j) (Pv k (EI j)) (AF (Te x)) (AF (Td x)) (cR (Ed x) (Yp x) (NO (Kv x)) (IZ (Kv x)) (BW (EC x)) (Mi k j) AJ (FR (KZ (ID x k) (rR (ID x j) (Di (gLo (ZO j x j)) (gHi (ZO j x j))))) (LB (ID x k) (rR (ID x j) (Di (gLo (ZO j x j)) (gHi (ZO j x j))))) (Qe (ID x k)) (FA x) (RE (FA x) (Be x) (λ l=>Ud x l))))) (AG (Ua k x) (TK (Vz x k) x i) (Ur k k) (Ux k x) (No (EW k) k (ACH (Td x) (Te x)))) (EC x) (EI k) (EI j))) (Om (λ k=>DU (AG (Mi k j) (Pv k (EI j)) (AF (Te x)) (AF (Td x)) (cR (Ed x) (Yp x) (NO (Kv x)) (IZ (Kv x)) (BW (EC x)) (Mi k j) AJ (FR (KZ (ID x k) (ID x j)) (LB (ID x k) (ID x j)) (OS (ID x k) (ID x j)) (FA x) (RE (FA x) (Be x) (λ l=>Ud x l))))) (AG (Ua k x) (TK (Vz x k) x i) (Ur k k) (Ux k x) (No (EW k) k (ACH (Td x) (Te x)))) (EC x) (EI k) (EI j)))) (GW (λ k=>VC (AE (AF (Te x)) (AF (Td x)) (cR (Ed x) (Yp x) (NO (Kv x)) (IZ (Kv x)) (BW (EC x)) (BH k (EW j)) AJ (FR (KZ (Er x k) (ID x j)) (LB (Er x k) (ID x j)) (OS (Er x k) (ID x j)) (FA x) (RE (FA x) (Be x) (λ l=>Ud x l))))) k (EC x) k i)))) (AN (And (UI (Er x i)) (H7 (ZV (Er x i)) (Lw (Er x i)) (UI (Er x i)))) (NQ (Tb (J7 x)) (Pe (Er x i))) (BD (Tb (J7 x)) (Pe (Er x i))) (Ad (J7 x) (Vx (Tv (Er x i)))))))) := by kernel_rfl
def APE (x : CZ2) : Prop := CL Try.prog APL V5 (AH V5) (xCZ2 x) (AB []) (.tup [.d (FX zSp), .int (DK x.a)]) [] [] []
theorem AWA (x : CZ2) : (APE x) = (QQ (AG (Ag x) (ZS x) (Aj x) (Ft x) (HJ (Fj x) (Mz x x) (RN (GC x) (IV x)) (Lj x x) (λ i=>Lf i x x i) (JR (GC x)) (λ i=>LJ i (GC x)) (TG (GC x)) (XU (Dd (Kj x))))) (Dd (Kj x)) (YT AJ (Fv (GC x) (Dd (Kj x)))) (DX (IP (iZ x) (iA x)) (YT AJ (Fv (GC x) 4)) NG)) := by kernel_rfl
theorem AKG (l : List Span) (a b x y : Int) : (Z1 l a b x y).length = l.length := by unfold Z1; rw [bG, bG]
theorem pk1 (x : CZ2) {i j : Nat} (h : Hul) (hij : i <= j) (hw : aW x i j = true) : vW x i h (j + 1 - i) = WT (vW x i h (j - i)) ⟨gLo (Tq x i j), gHi (Tq x i j)⟩ := by
 rw [show j + 1 - i = (j - i) + 1 by omega]
 show (bif aW x i (i + (j - i)) then _ else _) = _
 rw [show i + (j - i) = j by omega, hw]; rfl
theorem pk0 (x : CZ2) {i j : Nat} (h : Hul) (hij : i <= j) (hw : aW x i j = false) : vW x i h (j + 1 - i) = vW x i h (j - i) := by
 rw [show j + 1 - i = (j - i) + 1 by omega]
 show (bif aW x i (i + (j - i)) then _ else _) = _
 rw [show i + (j - i) = j by omega, hw]; rfl
theorem BNC (x : CZ2) (h1 : x.a.c.ms.length < 4611686018427387904 /\ x.a.c.ns.length < 4611686018427387904 /\ x.a.z.length < 4611686018427387904) (c0 : DK x.a = 0) : BAU x := by
 have tl := Wm c0
 have sl := R5 x.a.c
 obtain ⟨_, ⟨n1, n2⟩, _⟩ := RA (SR c0).1
 have wo : ∀ a b : Nat, (YW (GX x.a) (Z1 (RS x.a) (a : Int) (b : Int) (Te x) (Td x))).all Fa = aW x a b := λ _ _ => rfl
 have pf : DP x.f (-100000001) = Te x := rfl
 have pt : KS x.t 100000001 = Td x := rfl
 have so : ∀ a b : Nat, (QR (b + 1 - a) λ i => gD (WG x.a.c) (a + i)) = Tq x a b := λ _ _ => rfl
 rw [BEV]<;> delta KY lI Aq BA BI FW OH PR EX FI CE CU AC BX CM AQ LU BU WF DH DX IP HD LS PG WK Nm JV ER GP GA HQ HT HC HR DS GB ED GW Ak kH IX HV QT SX BT PO LL AV BV BQ LW FT SA NM Iz Di TT Xb kJ Sy Dd UZ Bg Tb Rd bR GC iZ iA J7 Om EW EI ACH oR AE BG AW EO GJ GI AG SV GM GS NV BF BE UR CK QU AR VB CN BD AF JJ CG BC EZ N8 H7 cR AO CQ GT BS CV Dc JL CY BO HK CR DD AL KA ZB Ao QX Bc Cl CF AM AT DM DR DZ GF GG DW RB AS DJ EG FC FA Ic Db AP EY FG FS EN Uf DC DB CS HW IV FV TB GR FZ JD DF HA RY QW KB LQ FU EM EH KG CX FE ET DE CJ GQ EC AN BY LP NY FY FJ pN EV EJ KD DI Hh BL MF XQ JS Tx FL JE HY JH HH An LR OK LV Df JG XJ BH JI ZC uZ ZA JQ OM JF ACB KV JP ZD NO DV Oo JZ HJ PM MQ MT DG BK PN QZ Rm IT AJV EB MC KF LM LX EK OJ MR CW IB MG OX QV WB IN LO HB KE MD KR MO IS KC MU OV Dj Rg QS QY QP HG TR EU HX Kv Iq VA DU BM BZ CA EP FQ GZ UH LI AZ TW CH AJ IY JC OC PF UE PU YM PT BR BW JN SI SU KP GH Eo IZ Hl TI GN Fl CO Hp MB DY MM FF ID RP LA NL MJ GO KL VE DO Jd QC OP ZH ZJ HO LB KZ Bv NQ HZ Tv Gh JR QM EE JW NW ZI YF BJ SG Z7 qZ Be KJ IE OS JU TK Dm PY QJ PJ LJ CP NB PS OB Ki UI KI YJ FR O1 NU Jn ZM NA Ec PH RN Ms RE Aj Ed Ag Ea ZO ZS Ae rR Ad ZV Mo WO Ft Aa UM Ie VC Fj TD Gc Ni UD Xp Kj Va XK VX Tp XA WH No Bs Bh Ud Pe Wg Mz Lj Mi Lw Aw Bb By Bl Br Ux TG Bu Ua Vz dQ Cj Ur Gu Yp QK Lf Pv Mh Mw Qe Tl Vx MY YL; simp only [CC, eq_self, implies_true, forall_const, DN, aF, Qx, Cg, jO, AFT, AWR]; simp only [tl, sl, wo, AKG, pf, pt]
 refine ⟨⟨h1, c0⟩, λ h4 => ?_, λ h4 => ⟨⟨0, ?_, Nat.zero_le _⟩, λ a ha => ⟨λ hlt => ⟨⟨⟨a, a⟩, ?_, by show a < _; omega, rfl, Nat.le_refl _, by show a <= _; omega, λ h => absurd h (Nat.lt_irrefl _)⟩, λ s ⟨s1, s2, s3, s4, s5⟩ => ⟨λ hc => ?_, λ hc => ?_⟩⟩, λ hge => ?_⟩⟩⟩
 ·unfold jQ; rw [decide_eq_true h4]; exact ⟨rfl, rfl, rfl⟩
 ·simp; exact ⟨rfl, rfl, rfl⟩
 ·simp [vW]
 ·have hj : s.j < x.a.c.ms.length := by
   cases hd : decide ((s.j : Int) < x.a.c.ms.length) with
   | false => rw [hd] at hc; cases hc
   | true => have := of_decide_eq_true hd; omega
  have hft : Td x >= Te x := by
   rw [decide_eq_true (show (s.j : Int) < x.a.c.ms.length by omega)] at hc
   exact of_decide_eq_true hc
  have ew : IntKind.i64.wrap ((s.j : Int) + 1) = ((s.j + 1 : Nat) : Int) := FH (by omega)
  simp only [ew, Int.toNat_natCast, so]
  have bound : ∀ i, i < s.j + 1 - s.i -> (gD (Tq x s.i s.j) i).lo = (gD (WG x.a.c) (s.i + i)).lo /\ (gD (Tq x s.i s.j) i).hi = (gD (WG x.a.c) (s.i + i)).hi := λ i hi => by
   unfold Tq; rw [IK _ _ _ hi]; exact ⟨rfl, rfl⟩
  refine ⟨?_, λ hw => ⟨?_, ⟨s.i, s.j + 1⟩, ?_, ⟨s1, s2, by show s.i <= s.j + 1; omega, by show s.j + 1 <= _; omega, λ _ => hft⟩, by show x.a.c.ms.length - (s.j + 1) < _; omega⟩, λ hw => ⟨⟨s.i, s.j + 1⟩, ?_, ⟨s1, s2, by show s.i <= s.j + 1; omega, by show s.j + 1 <= _; omega, λ _ => hft⟩, by show x.a.c.ms.length - (s.j + 1) < _; omega⟩⟩
  ·simp; omega
  ·refine ⟨⟨by omega, by omega, by omega⟩, bound, ⟨by omega, by omega⟩, ⟨by omega, by omega, by omega⟩, bound, by omega, by omega⟩
  ·have e := pk1 x (Er x s.i) s3 hw
   simp only [e]; simp; rfl
  ·have e := pk0 x (Er x s.i) s3 hw
   simp only [e]; simp
 ·have e : Er x (s.i + 1) = vW x s.i (Er x s.i) (s.j - s.i) := by
   show (bif decide (Td x >= Te x) then _ else _) = _
   by_cases hft : Td x >= Te x
   ·rw [decide_eq_true hft] at hc ⊢
    have hj : s.j = x.a.c.ms.length := by
     cases hd : decide ((s.j : Int) < x.a.c.ms.length) with
     | true => rw [hd] at hc; cases hc
     | false => have := of_decide_eq_false hd; omega
    rw [hj]; rfl
   ·rw [decide_eq_false hft]
    have : s.j = s.i := by
     rcases Nat.lt_or_ge s.i s.j with h | h
     ·exact absurd (s5 h) hft
     ·omega
    rw [this, Nat.sub_self]; rfl
  refine ⟨s.i + 1, ⟨(FH (by omega)).symm, ?_, ?_, ?_⟩, by omega, by omega⟩ <;> rw [e]
 ·obtain rfl : a = x.a.c.ms.length := by omega
  unfold jQ; rw [decide_eq_false h4]; exact ⟨rfl, rfl, rfl⟩
theorem AQL : AK Try.prog AHV (C_Peak.spec dCZ2) := okT C_Peak (λ (x : CZ2) h => by
 have h1 : x.a.c.ms.length < 4611686018427387904 /\ x.a.c.ns.length < 4611686018427387904 /\ x.a.z.length < 4611686018427387904 := h
 by_cases c0 : DK x.a = 0
 ·have e : C_Peak.val x = .tup [.d (FX (jQ x).1), .int (jQ x).2] := by
   show AVal.tup [.d (FX (Kt x).1), .int (Kt x).2] = _
   unfold Kt; rw [c0]; rfl
  rw [e]
  exact Rc (A := AUN x) (L := []) (keep := []) (ren := []) (fz := []) ARY (by kernel_rfl) (AA AFZ (AA BKT (AA AML (AA AYG (AA BGA (AA (AWB BOG BLF) (AA ADH (AA ANH AD)))))))) (BNC x h1 c0)
 ·have c0' : (DK x.a == 0) = false := by simpa using c0
  have e : C_Peak.val x = .tup [.d (FX zSp), .int (DK x.a)] := by
   show AVal.tup [.d (FX (Kt x).1), .int (Kt x).2] = _
   unfold Kt; rw [c0']; rfl
  rw [e]
  refine Rc (A := APL) (L := []) (keep := []) (ren := []) (fz := []) ARY (by kernel_rfl) (AA AIE AD) ?_
  show APE x; rw [AWA]<;> delta BA BI FW EX FI CE AC BX CM AQ WF DX IP ER GP GA HQ HT HC HR DS GB ED TU NG BV BQ FT SA NM Ow Dd GC iZ iA AE BG AW EO GJ GI AG SV GM NV BF BE UR CK AR VB CN BD AF CG YT AO CQ BS CV Dc JL CY BO CR AL ZB Ao QX Bc Cl CF AM AT DR AS EG FC Db AP FG CS IV FV TB DF HA FU KG ET EC NY FY FJ EV EJ Hh MF HH LR OK Df OM ACB HJ MT PN EK QV MD GZ LI AJ PF UE PU SU GN NL VE QC OP JR QM JW YF PY QJ LJ PS UN RN Aj Ag ZS Ft QQ Fj Kj Mz Lj XU TG Fv Lf; simp only [CC, eq_self, implies_true, forall_const, DN, Cg]
  exact ⟨⟨h1, c0⟩, λ h => by simp [c0] at h⟩) _
end Go.Bal
