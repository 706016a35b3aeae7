/- Package chart: the greatest stages from a time to another one. -/
import Derived.Test.YtdbjalgfomknhaaChI
import Derived.Test.YtdbjalgfomknhaaChT2
set_option linter.unusedVariables false
set_option linter.unusedSimpArgs false
namespace Go.Bal
open Go Go.Sym Go.Proofs
structure CZ2 where
 a : CZ
 f : Int
 t : Int
structure IJ where
 i : Nat
 j : Nat
 deriving Inhabited
def dCZ2 : List AVal -> Heap -> Option (CZ2 × List (Nat × Nat) × List Nat)
 | [x, y, .d f, .d t], H => match AVK x H, BPS y H with
  | some (c, g), some (l, e) => some (⟨⟨c, l⟩, JQ f, JQ t⟩, [], g ++ e)
  | _, _ => none
 | _, _ => none
def xCZ2 (x : CZ2) : List AVal := [.d (Rc x.a.c), .d (GQ x.a.z), .int x.f, .int x.t]
def pkF (x : CZ2) : Int := TM x.f (-100000001)
def pkT (x : CZ2) : Int := Gd x.t 100000001
def BDB (x : CZ2) (a b : Nat) : Bool := (nS (WL x.a) (winL (tmL x.a) (a : Int) (b : Int) (pkF x) (pkT x))).all jN
def sliS (x : CZ2) (a b : Nat) : List Span := HX (b + 1 - a) λ i => gD (Lr x.a.c) (a + i)
def pkI (x : CZ2) (a : Nat) (h : Hul) : Nat -> Hul
 | 0 => h
 | k + 1 => bif BDB x a (a + k) then Wu (pkI x a h k) ⟨gLo (sliS x a (a + k)), gHi (sliS x a (a + k))⟩ else pkI x a h k
def pkO (x : CZ2) : Nat -> Hul
 | 0 => zHul
 | a + 1 => bif decide (pkT x >= pkF x) then pkI x a (pkO x a) (x.a.c.ms.length - a) else pkO x a
def AWN (x : CZ2) : Span × Int := bif decide (x.t < x.f) then (⟨0, 0⟩, 4) else whoM (pkO x x.a.c.ms.length)
def AWX (x : CZ2) : Span × Int := bif EE x.a == 0 then AWN x else (⟨0, 0⟩, EE x.a)
def C_Peak : Ctr := { α := CZ2, xs := xCZ2, val := λ x => .tup [.d (JS (AWX x).1), .int (AWX x).2], keep := λ _ => [], pre := λ x => [x.a.c.ms.length < 4611686018427387904 /\ x.a.c.ns.length < 4611686018427387904 /\ x.a.z.length < 4611686018427387904] }
def pkS (x : CZ2) (a : Nat) : List (Nat × AVal) := [(2, .int (pkF x)), (3, .int (pkT x)), (8, .bptr 202 0), (10, .bptr 208 0), (11, .d (DW (tmL x.a))), (12, .d (DW (Lr x.a.c))), (14, .bptr 206 0), (42, .int x.a.c.ms.length), (43, .int a)]
def pkH (x : CZ2) (h : Hul) : List (Nat × HCell) := [(202, .live (.box [.int 0, .int 0])), (206, .live (hlB h)), (208, .live (dkB (WL x.a) 209)), (209, .live (dkM (WL x.a)))]
def pk9 (x : CZ2) : Shape := { α := Nat, dflt := 0, T := λ a => ⟨pkS x a, pkH x (pkO x a)⟩, inv := λ a => a <= x.a.c.ms.length, meas := λ a => x.a.c.ms.length - a, first := [(202, 1016), (206, 8000), (208, 2032), (209, 2033)] }
def pk12 (x : CZ2) (m : Nat) : Shape := { α := IJ, dflt := default, T := λ s => ⟨[(15, .int s.i), (16, .int s.j)] ++ pkS x s.i, pkH x (pkI x s.i (pkO x s.i) (s.j - s.i))⟩, inv := λ s => s.i < x.a.c.ms.length /\ x.a.c.ms.length - s.i = m /\ s.i <= s.j /\ s.j <= x.a.c.ms.length /\ (s.i < s.j -> pkT x >= pkF x), meas := λ s => x.a.c.ms.length - s.j }
def BWS (x : CZ2) : Ann := { ann 91 [(Ot, C_rdO.spec dCZ), (BBY, C_win.spec dDkW), (Yv, C_nar.spec dDkS), (BGM, C_least.spec dN0c), (BLM, C_most.spec dN0c), (sO, orS (C_grL.spec CGL) (C_grH.spec CFY)), (ATZ, C_hadd.spec dHuS), (ANK, C_who.spec dHu1)] with loops := λ id => if id = 9 then some [pk9 x] else none, inner := λ gs id => if id = 12 then some [pk12 x (gs.getD 0 0)] else none }
def BPG : Ann := ann 91 [(Ot, C_rdX.spec dCZ)]
def BWR (x : CZ2) : Prop := DN Try.prog (BWS x) BBR (AP BBR) (xCZ2 x) (AH []) (.tup [.d (JS (AWN x).1), .int (AWN x).2]) [] [] []
abbrev OR:=CZ2.a
abbrev AVL:=AWN
abbrev aG:=@Exists IJ
abbrev GT:=IJ.i
abbrev EZ:=IJ.j
abbrev BDF:=@GE.ge Int Int.instLEInt
abbrev AND:=λ (f : IJ -> Prop) => ∀ (x : IJ), f x
abbrev oN a b:=Ip (pkO a b)
abbrev Di a:=OB (OR a)
abbrev VV a:=BY (Di a)
abbrev FK a:=IN (OR a)
abbrev Zf a b:=NK (FK a) b
abbrev Df a:=Le (OR a)
abbrev BGP a b:=NR a (GT b)
abbrev Vc a b:=pkI a (GT b) (pkO a (GT b)) (BGP (EZ b) b)
abbrev No a b:=Ip (Vc a b)
abbrev Vd a b:=We (Di a) b
abbrev Co a:=TF (Di a)
abbrev XJ a:=tmL (OR a)
abbrev uR a b c:=BK a (EZ b) c
abbrev Tv a b:=GM (EZ a) b
abbrev Gl a b:=PZ (GT a) b
abbrev Fh a b:=Gl a (GT b)
abbrev AYD a b:=ZA (GT a) b
abbrev AZY a b c:=Vd a (AYD b c)
abbrev AZH a:=Fu (EZ a)
abbrev Xu a b c:=Wy (BGP (AZH a) a) (λ i=>AZY b c i)
abbrev jC a b c:=DR (Xu a b c)
abbrev Bo a:=BW (GT a)
abbrev Eh a:=BW (EZ a)
abbrev C0 a:=PX (XJ a)
abbrev Bx a:=CK (OR a)
attribute [go_sem] OR AVL aG GT EZ BDF AND oN Di VV FK Zf Df BGP Vc No Vd Co XJ uR Tv Gl Fh AYD AZY AZH Xu jC Bo Eh C0 Bx
theorem CCE (x : CZ2) : (BWR x) = (And (WU (Di x) (DO (AW (Di x)) (BR (Di x)) (CW (Di x)) (TA (OR x) (Di x)) (λ i=>TC i (OR x) (OR x) i (OR x) i) (MH (OR x)) (λ i=>OK i (OR x)) (VR (Di x) (OR x)) (DK (RE (OR x))))) (LV (CZ2.t x) (CZ2.f x) (AI (DK (BU (AGU (AVL x)))) (Ex (AGU (AVL x))) (AU (AVW (AVL x)) 4)) (NQ (λ i=>Am (AU (pkF x) (nM (CZ2.f x) (-100000001))) (AU (pkT x) (Gd (CZ2.t x) 100000001)) (ANM (LO (XJ x) (Hr (OR x))) (ZH (DR (XJ x)) (XJ x) (Hr (OR x))) (LO (Co x) (TF (MZ (OR x)))) (AK (λ j=>PI j (DR (Co x)) (Co x) (GK (TF (MZ (OR x))) j) (Vd x j) (We (MZ (OR x)) j))) (PZ (VV x) (DR (Hr (OR x)))) (CF i) BM (AO (DK (BU (oN x i))) (Ex (oN x i)) (HF (Im (pkO x i))) (PC (FK x) (Bx x)) (OX (FK x) (Bx x)) (PR (FK x) (Bx x)) (PO (FK x) (Bx x)) (PH (FK x) (Bx x)) (OG (RP (FK x) (Bx x)) (λ j=>RO j (FK x) j (Bx x) j j) (RR (FK x) (Bx x)) (λ j=>FV j (FK x) (CR (Bx x) j) (DQ (Bx x) j) (BG (Bx x) j) (WR (FK x) j (Bx x) j) (WA (FK x) j (Bx x) j)) (λ j=>Hz j (KO (Df x) j) (KO (RS (OR x)) j)) BC (BI (λ j=>XO (FK x) j (Bx x) j)) (λ j=>Ep (OE (Df x) j) (RS (OR x)) j) (λ j=>MM (Zf x j) (NK (Bx x) j))))) (MG i (VV x))) (λ i=>CU (MG i (VV x)) i (ZY (Di x)) (And (aG (λ j=>CE (AN (Gl j i) (PZ (EZ j) i) (AM (pkF x)) (AM (pkT x)) (ANM (MO (XJ x)) (KX (XJ x)) (MO (Co x)) (AK (λ k=>QT k (Co x) (CJ (Vd x k)) (Vd x k))) (Bb (Di x)) (Gl j i) BM (LI (GV (No x j) (oN x i)) (BJ (No x j) (oN x i)) (Sy (Vc x j) (pkO x i)) (FK x) (IF (FK x) (Df x) (λ k=>Zf x k))))) (DD (GT j) (VV x)) (WY (VV x) (GT j) i) (GM (GT j) (EZ j)) (Tv j (VV x)) (uR (GT j) j (BDF (pkT x) (pkF x))))) (AND (λ j=>CA (AN (DD (GT j) (VV x)) (WY (VV x) (GT j) i) (GM (GT j) (EZ j)) (Tv j (VV x)) (uR (GT j) j (BDF (pkT x) (pkF x)))) (FX (II (WN (Eh j) (Au (XJ x))) (hd6 (pkT x) (pkF x))) (MC (Kc (XJ x)) (Er (XJ x)) (GA (GT j)) (LI (GA (EZ j)) (AM (pkF x)) (AM (pkT x)) (FK x) (PF (BR (FK x)) (λ k=>CH k (FK x)) (DF (FK x)) (λ k=>BP k (FK x)) (λ k=>LP k (Df x)) (EV (FK x)) (Df x) (AO (BI (λ k=>FG (FK x) k (Zf x k))) (BA (FK x)) (AZ (FK x)) (BE (FK x)) (BD (FK x)) (AW (FK x)) (DA (FK x)) (HO (FK x)) (DJ (DB (FK x)) (λ k=>CQ k (FK x)) (EP (Df x)) BC (EQ (FK x)) (EC (Df x)) (BI (λ k=>FF (Zf x k) (FK x) k)) (BZ (SJ (LF (XJ x))) (GM (LF (XJ x)) 40) (Ey (Bo j) (LF (XJ x)) (EZ j) (Eh j))) (DJ (Kc (uX (C0 x) (Bo j) (Eh j) (pkF x) (pkT x))) (λ k=>QJ k (LF (uX (C0 x) (Bo j) (Eh j) (pkF x) (pkT x))) (PX (uX (C0 x) (Bo j) (Eh j) (pkF x) (pkT x))) (uX (C0 x) (Bo j) (Eh j) (pkF x) (pkT x))) (BA (FK x)) (AZ (FK x)) (BE (FK x)) (BD (FK x)) (AW (FK x)) (BR (FK x)) (QU (λ k=>CH k (FK x)) (FK x) (λ k=>BP k (FK x)) (EP (Df x)) BC (EV (FK x)) (EC (Df x)) (λ k=>FG (FK x) k (Zf x k)) (MJ (FK x) (QR (λ k=>CQ k (FK x)) (EP (Df x)) BC (EQ (FK x)) (EC (Df x)) (λ k=>FF (Zf x k) (FK x) k) (YL (uX (C0 x) (Bo j) (Eh j) (pkF x) (pkT x)) (CY (FK x))) (UA (FK x)) (PA (FK x)))))))))) (TI (yP (Zc (Wf (CV (FK x)) (Df x)) (PX (uX (C0 x) (Bo j) (Eh j) (pkF x) (pkT x)))) jN) (AN (AI (RF (GT j)) (KZ (Bo j) (DU (EZ j))) (Cg (DU (EZ j)) (DR (Co x)))) (mJ (jC j x j) (AZH j) (GT j)) (AK (λ k=>UI k (jC j x j) (Xu j x j) (Co x) (AYD j k) (AZY x j k))) (And (LJ (jC j x j)) (RH (jC j x j))) (AO (AI (RF (GT j)) (KZ (Bo j) (DU (EZ j))) (Cg (DU (EZ j)) (DR (Co x)))) (mJ (jC j x j) (AZH j) (GT j)) (AK (λ k=>UI k (jC j x j) (Xu j x j) (Co x) (AYD j k) (AZY x j k))) (And (LJ (jC j x j)) (RH (jC j x j))) (AM (gLo (Xu j x j))) (AM (gHi (Xu j x j))) (UM (Vc x j)) (BL (No x j)) (Ev (Vc x j)))) (aG (λ k=>DC (AN (Fh k j) (BT (EZ k) (EZ j)) (AM (pkF x)) (AM (pkT x)) (ANM (MO (XJ x)) (KX (XJ x)) (MO (Co x)) (AK (λ l=>QT l (Co x) (CJ (Vd x l)) (Vd x l))) (Bb (Di x)) (Fh k j) BM (LI (GV (No x k) (Eg (Vc x j) (Ed (gLo (Xu j x j)) (gHi (Xu j x j))))) (BJ (No x k) (Eg (Vc x j) (Ed (gLo (Xu j x j)) (gHi (Xu j x j))))) (GX (Im (Vc x k))) (FK x) (IF (FK x) (Df x) (λ l=>Zf x l))))) (AN (DD (GT k) (VV x)) (WY (VV x) (GT k) i) (GM (GT k) (EZ k)) (Tv k (VV x)) (uR (GT k) k (BDF (pkT x) (pkF x)))) (VV x) (EZ k) (EZ j))) (aG (λ k=>DC (AN (Fh k j) (BT (EZ k) (EZ j)) (AM (pkF x)) (AM (pkT x)) (ANM (MO (XJ x)) (KX (XJ x)) (MO (Co x)) (AK (λ l=>QT l (Co x) (CJ (Vd x l)) (Vd x l))) (Bb (Di x)) (Fh k j) BM (LI (GV (No x k) (No x j)) (BJ (No x k) (No x j)) (Sy (Vc x k) (Vc x j)) (FK x) (IF (FK x) (Df x) (λ l=>Zf x l))))) (AN (DD (GT k) (VV x)) (WY (VV x) (GT k) i) (GM (GT k) (EZ k)) (Tv k (VV x)) (uR (GT k) k (BDF (pkT x) (pkF x)))) (VV x) (EZ k) (EZ j))))) (GY (λ k=>DC (AI (AM (pkF x)) (AM (pkT x)) (ANM (MO (XJ x)) (KX (XJ x)) (MO (Co x)) (AK (λ l=>QT l (Co x) (CJ (Vd x l)) (Vd x l))) (Bb (Di x)) (BT k (GT j)) BM (LI (GV (oN x k) (No x j)) (BJ (oN x k) (No x j)) (Sy (pkO x k) (Vc x j)) (FK x) (IF (FK x) (Df x) (λ l=>Zf x l))))) (MG k (VV x)) (VV x) k i)))))) (ZR (UM (pkO x i)) (AVJ (BL (oN x i)) (Ev (pkO x i)) (UM (pkO x i))) (GV (AGU (AVL x)) (Ui (pkO x i))) (BJ (AGU (AVL x)) (Ui (pkO x i))) (AU (AVW (AVL x)) (Lx (Ch (pkO x i))))))))) := by kernel_rfl
def BPI (x : CZ2) : Prop := DN Try.prog BPG BBR (AP BBR) (xCZ2 x) (AH []) (.tup [.d (JS zSp), .int (EE x.a)]) [] [] []
theorem BWA (x : CZ2) : (BPI x) = (EX (WU (Di x) (DO (AW (Di x)) (BR (Di x)) (CW (Di x)) (TA (OR x) (Di x)) (λ i=>TC i (OR x) (OR x) i (OR x) i) (MH (OR x)) (λ i=>OK i (OR x)) (VR (Di x) (OR x)) (OY (RE (OR x))))) (PK (RE (OR x))) (Cr BM (Ju (OR x) (RE (OR x)))) (LV (CZ2.t x) (CZ2.f x) (Cr BM (Ju (OR x) 4)) JY)) := by kernel_rfl
theorem BTU (l : List Span) (a b x y : Int) : (winL l a b x y).length = l.length := by unfold winL; rw [mY, mY]
theorem pk1 (x : CZ2) {i j : Nat} (h : Hul) (hij : i <= j) (hw : BDB x i j = true) : pkI x i h (j + 1 - i) = Wu (pkI x i h (j - i)) ⟨gLo (sliS x i j), gHi (sliS x i j)⟩ := by
 rw [show j + 1 - i = (j - i) + 1 by omega]
 show (bif BDB x i (i + (j - i)) then _ else _) = _
 rw [show i + (j - i) = j by omega, hw]; rfl
theorem pk0 (x : CZ2) {i j : Nat} (h : Hul) (hij : i <= j) (hw : BDB x i j = false) : pkI x i h (j + 1 - i) = pkI x i h (j - i) := by
 rw [show j + 1 - i = (j - i) + 1 by omega]
 show (bif BDB x i (i + (j - i)) then _ else _) = _
 rw [show i + (j - i) = j by omega, hw]; rfl
theorem CKT (x : CZ2) (h1 : x.a.c.ms.length < 4611686018427387904 /\ x.a.c.ns.length < 4611686018427387904 /\ x.a.z.length < 4611686018427387904) (c0 : EE x.a = 0) : BWR x := by
 have tl := BIC c0
 have sl := mI x.a.c
 obtain ⟨_, ⟨n1, n2⟩, _⟩ := QE (APD c0).1
 have wo : ∀ a b : Nat, (nS (WL x.a) (winL (tmL x.a) (a : Int) (b : Int) (pkF x) (pkT x))).all jN = BDB x a b := λ _ _ => rfl
 have pf : TM x.f (-100000001) = pkF x := rfl
 have pt : Gd x.t 100000001 = pkT x := rfl
 have so : ∀ a b : Nat, (HX (b + 1 - a) λ i => gD (Lr x.a.c) (a + i)) = sliS x a b := λ _ _ => rfl
 rw [CCE]<;> delta MF hd6 Sw BU CO FM TP WF FQ FP CL DR AK CA DD AU ML BW Aj GM FX WN KZ KB XF nM NR IV HC HA HZ ID IA JD GN FW FY GY Wy yP PB JW ZA PY BI NH MG AQ OE DX DE KO OB NJ Le Ed TF Zc Im Ip AGU AVW uX OR AVL aG GT EZ BDF AND AI BG DV EN GF AN IN BO XE BK Lh CG BJ BB BY AO AM HS FZ BL BV ED mR AVJ ANM UZ NK CS GS CD IW CJ CX DM AZ IY CR CY DP EU Kg XC CV DH BA AW HD Fs DQ GJ GG EA LU EI gU HY DG Na BD FS EJ FK FU KR GU R8 BE EH ER OZ EY FR OO EM DI BZ IE mJ HM MN GC HI KP EF DU EO GI DS BC XD FH LB HQ GK GR JG HR GX PX WY Wf MZ CK KU PP GO PZ FI LC Di FT JU LF TL Mo Bf LD JX QC IR KM We Ac LG GD NL JH ZY VO OT BT NG WV LV SJ MK DK DO LR OG HB BR DC DF Fq LP IL IP IS IM JZ PL QX EL CH MX MO OC ME NF RC NM RB Fu QA OF Kq VK WQ By XJ RS BM CE DB DA MM BS CW QQ QT OH NO CU SY LJ BGP EC JN NA PI JK QK BP MB GV HF II WG Gf JJ GA FV MQ HN KX UR VX EP YC CF EV XS Vd DJ FF UI Ch IF Az CQ FG Gl LO EQ RE VV QJ RF AYD AZH Jt UW AZY UU PA Br Bx ZO UM WE Ud HO Co Df uR TA YL Hi PJ Vc Cg Hg MC NQ ZH Xu Gg Bo PC PH jP UA Bb LI MH TN Hn VQ PO Eh OX PR Fh RP RR No Hr Ev RH OK VY Au XO TI Lx ZR WA Dh MJ VR WR Eg Am Zf Ui Ex Up WU Gv Tv C0 TC Ey Er RO Hz QU QR jC oN Ep Ez Kc Sy PF; simp only [CC, eq_self, implies_true, forall_const, EB, Ts, J2, Of, AAY, BGN, BVQ]; simp only [tl, sl, wo, BTU, pf, pt]
 refine ⟨⟨h1, c0⟩, λ h4 => ?_, λ h4 => ⟨⟨0, ?_, Nat.zero_le _⟩, λ a ha => ⟨λ hlt => ⟨⟨⟨a, a⟩, ?_, by show a < _; omega, rfl, Nat.le_refl _, by show a <= _; omega, λ h => absurd h (Nat.lt_irrefl _)⟩, λ s ⟨s1, s2, s3, s4, s5⟩ => ⟨λ hc => ?_, λ hc => ?_⟩⟩, λ hge => ?_⟩⟩⟩
 ·unfold AWN; rw [decide_eq_true h4]; exact ⟨rfl, rfl, rfl⟩
 ·simp; exact ⟨rfl, rfl, rfl⟩
 ·simp [pkI]
 ·have hj : s.j < x.a.c.ms.length := by
   cases hd : decide ((s.j : Int) < x.a.c.ms.length) with
   | false => rw [hd] at hc; cases hc
   | true => have := of_decide_eq_true hd; omega
  have hft : pkT x >= pkF x := by
   rw [decide_eq_true (show (s.j : Int) < x.a.c.ms.length by omega)] at hc
   exact of_decide_eq_true hc
  have ew : IntKind.i64.wrap ((s.j : Int) + 1) = ((s.j + 1 : Nat) : Int) := HH (by omega)
  simp only [ew, Int.toNat_natCast, so]
  have bound : ∀ i, i < s.j + 1 - s.i -> (gD (sliS x s.i s.j) i).lo = (gD (Lr x.a.c) (s.i + i)).lo /\ (gD (sliS x s.i s.j) i).hi = (gD (Lr x.a.c) (s.i + i)).hi := λ i hi => by
   unfold sliS; rw [EK _ _ _ hi]; exact ⟨rfl, rfl⟩
  refine ⟨?_, λ hw => ⟨?_, ⟨s.i, s.j + 1⟩, ?_, ⟨s1, s2, by show s.i <= s.j + 1; omega, by show s.j + 1 <= _; omega, λ _ => hft⟩, by show x.a.c.ms.length - (s.j + 1) < _; omega⟩, λ hw => ⟨⟨s.i, s.j + 1⟩, ?_, ⟨s1, s2, by show s.i <= s.j + 1; omega, by show s.j + 1 <= _; omega, λ _ => hft⟩, by show x.a.c.ms.length - (s.j + 1) < _; omega⟩⟩
  ·simp; omega
  ·refine ⟨⟨by omega, by omega, by omega⟩, bound, ⟨by omega, by omega⟩, ⟨by omega, by omega, by omega⟩, bound, by omega, by omega⟩
  ·have e := pk1 x (pkO x s.i) s3 hw
   simp only [e]; simp; rfl
  ·have e := pk0 x (pkO x s.i) s3 hw
   simp only [e]; simp
 ·have e : pkO x (s.i + 1) = pkI x s.i (pkO x s.i) (s.j - s.i) := by
   show (bif decide (pkT x >= pkF x) then _ else _) = _
   by_cases hft : pkT x >= pkF x
   ·rw [decide_eq_true hft] at hc ⊢
    have hj : s.j = x.a.c.ms.length := by
     cases hd : decide ((s.j : Int) < x.a.c.ms.length) with
     | true => rw [hd] at hc; cases hc
     | false => have := of_decide_eq_false hd; omega
    rw [hj]; rfl
   ·rw [decide_eq_false hft]
    have : s.j = s.i := by
     rcases Nat.lt_or_ge s.i s.j with h | h
     ·exact absurd (s5 h) hft
     ·omega
    rw [this, Nat.sub_self]; rfl
  refine ⟨s.i + 1, ⟨(HH (by omega)).symm, ?_, ?_, ?_⟩, by omega, by omega⟩ <;> rw [e]
 ·obtain rfl : a = x.a.c.ms.length := by omega
  unfold AWN; rw [decide_eq_false h4]; exact ⟨rfl, rfl, rfl⟩
theorem CBY : AR Try.prog BLP (C_Peak.spec dCZ2) := okT C_Peak (λ (x : CZ2) h => by
 have h1 : x.a.c.ms.length < 4611686018427387904 /\ x.a.c.ns.length < 4611686018427387904 /\ x.a.z.length < 4611686018427387904 := h
 by_cases c0 : EE x.a = 0
 ·have e : C_Peak.val x = .tup [.d (JS (AWN x).1), .int (AWN x).2] := by
   show AVal.tup [.d (JS (AWX x).1), .int (AWX x).2] = _
   unfold AWX; rw [c0]; rfl
  rw [e]
  exact Su (A := BWS x) (L := []) (keep := []) (ren := []) (fz := []) BPL (by kernel_rfl) (AC AYS (AC CIG (AC BNQ (AC CAH (AC CCM (AC (BZC CKR CJU) (AC BHY (AC BMO AL)))))))) (CKT x h1 c0)
 ·have c0' : (EE x.a == 0) = false := by simpa using c0
  have e : C_Peak.val x = .tup [.d (JS zSp), .int (EE x.a)] := by
   show AVal.tup [.d (JS (AWX x).1), .int (AWX x).2] = _
   unfold AWX; rw [c0']; rfl
  rw [e]
  refine Su (A := BPG) (L := []) (keep := []) (ren := []) (fz := []) BPL (by kernel_rfl) (AC AZS AL) ?_
  show BPI x; rw [BWA]<;> delta BU CO FM FQ FP CL AK CA DD AU Aj FX WN IV HC HA HZ ID IA JD GN FW FY WW JY DX DE OB NJ OR AI BG DV EN GF AN BO XE BK Lh CG BJ BB BY AO AM FZ BL Cr UZ CS CD IW CJ CX DM AZ CY DP EU Kg XC DH BA AW GJ EA LU EI DG Na BD GU BE EH ER EM IE HM GC EF GI DS FH GR MZ PP FI LC Di Mo JX QC GD NL NG LV DO BR Fq PL QX CH ME NM Kq BM CW EX PK RE UU ZO TA PJ MH TN VQ OY OK VY Dh VR WU TC Ju; simp only [CC, eq_self, implies_true, forall_const, EB, Of]
  exact ⟨⟨h1, c0⟩, λ h => by simp [c0] at h⟩) _
end Go.Bal
