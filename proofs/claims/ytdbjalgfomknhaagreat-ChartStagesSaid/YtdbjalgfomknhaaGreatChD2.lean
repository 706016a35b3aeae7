/- Package chart: times are narrowed. -/
import Derived.Test.YtdbjalgfomknhaaGreatChD1
set_option linter.unusedVariables false
set_option linter.unusedSimpArgs false
namespace Go.Bal
open Go Go.Sym Go.Proofs
def C_gaps : Ctr := { ro := [100, 101], α := Dk, xs := λ _ => [.bptr 100 0], L := λ w => dkL w, val := λ _ => .fn (.func lS) [] [.bptr 0 0], keep := λ w => dkK w ++ [(0, .live (.box [.bptr 100 0]))] }
def AUG : Ann := { ann 4 [] with E := [100, 101] }
def BBH (w : Dk) : Prop := CL Try.prog AUG AOV (AH AOV) (C_gaps.xs w) (AB (C_gaps.L w)) (C_gaps.val w) (C_gaps.keep w) [(0, 1000)] []
theorem BCM (w : Dk) : (BBH w) = (CW (UF w) (TZ w) (XH w) (WJ w) (WS w) (Pb w w)) := by kernel_rfl
theorem APB : AK Try.prog AHS (C_gaps.spec xG) := XM C_gaps (λ _ => AUG) [(0, 1000)] [] BEP (λ _ => by kernel_rfl) (λ _ => AD) (λ (w : Dk) _ => by
 show BBH w; rw [BCM]<;> delta KY BA BI FW EX FI CE AC BX CM AQ ER GP GA HQ HT HC HR DS GB ED SX BT PO AV LW AE BG AW AG BF BE CK QU AR CN BD AF CG BC EZ AO CQ BS CV CY BO CR DD AL CF AM AT DM DZ GG AS DJ AP EY SW DB HW JD RY QW FE DE BY KD BL XQ JE HY JH XJ ZA JQ QZ EB MC CW IB MG WB KE KC QP CH SI MM YI SG NB XH YJ UF TY TZ WJ WS Pb; simp) (λ _ => YR rfl rfl) _
def farM (c : Cht) (g : Nat) : Int := wr ((gD c.ms (g + 1)).pl - (gD c.ms g).pl)
def SZ (w : Dk) (g : Nat) : Span := ⟨wr (w.c.p.lo * farM w.c g), bif w.sp g then 200000000 else wr (w.c.p.hi * farM w.c g)⟩
def gapL (w : Dk) : List Span := QR (w.c.ms.length - 1) λ g => SZ w g
structure LIS where
 l : List Span
 k : Int
 s : Span
def K6 (l : List Span) (k : Int) (s : Span) (i : Nat) : Span := bif decide (i = k.toNat) then hJ (gD l k.toNat) s else gD l i
def lkR (n : Nat) (f : Nat -> Span) : List (Nat × HCell) := [(100, .live (.box [.own 101 2 0 n])), (101, .live (.row 2 n λ i => FX (f i)))]
def C_nar1 : Ctr := { ro := [100], α := LIS, xs := λ a => [.int a.k, .d (FX a.s), .bptr 100 0], L := λ a => [(100, .box [.own 101 2 0 a.l.length]), (101, rowS a.l)], val := λ _ => .d (.tup []), keep := λ a => lkR a.l.length (K6 a.l a.k a.s), pre := λ a => [0 <= a.k /\ a.k < a.l.length] }
def AWC : List AVal -> Heap -> Option (LIS × List (Nat × Nat) × List Nat)
 | [.d k, .d s, .bptr id _], H => match H id with
  | .live (.box [.own j _ _ _]) => match H j with
   | .live (.row _ n g) => some (⟨QR n λ i => Ku (g i), HM k, Ku s⟩, [(100, id), (101, j)], [])
   | _ => none
  | _ => none
 | _, _ => none
def AXV : Ann := { ann 15 [(uE, C_com.spec AUK)] with E := [100, 101] }
def AZG (a : LIS) : Prop := CL Try.prog AXV AOW (AH AOW) (C_nar1.xs a) (AB (C_nar1.L a)) (C_nar1.val a) (C_nar1.keep a) [] []
abbrev Wu:=LIS.k
abbrev Rf:=LIS.l
abbrev pA:=LIS.s
attribute [go_sem] Wu Rf pA
theorem BGE (a : LIS) : (AZG a) = (vT (And (DQ (Wu a) (CU (Rf a))) (FP (CM (MH (Wu a)) (CU (Rf a))) (ZC (Rf a) (MH (Wu a))) (ZD (Rf a) (MH (Wu a))) (LO (Mn (pA a)) 1) SH (λ i=>UG i (Mn (pA a)) i (BA (pA a)) (pA a)) HF (DQ (Wu a) (CU (Rf a))) (PE (Wu a) (CU (Rf a))))) AI (NO (Rf a)) (AC (λ i=>KH i (CU (Rf a)) (BA (K6 (Rf a) (Wu a) (pA a) i)) (KN i (Wu a) (BA (comM (SL.mk (LU (Rf a) (MH (Wu a))) (Mn (pA a))))) (EM (Rf a) i)) (K6 (Rf a) (Wu a) (pA a) i) (KN i (Wu a) (BI (comM (SL.mk (LU (Rf a) (MH (Wu a))) (Mn (pA a))))) (MX (Rf a) i))))) := by kernel_rfl
theorem BCO : AK Try.prog yU (C_nar1.spec AWC) := XM C_nar1 (λ _ => AXV) [] [] BFF (λ _ => by kernel_rfl) (λ _ => AA AYH AD) (λ (a : LIS) h => by
 show AZG a; rw [BGE]<;> delta KY BA BI CE CU AC BX CM AQ LU BU DH HD LS Ak IX HV QT LL YY Uc Wu Rf pA AE AG BF BE AR BD AF CG BC EZ Tz vT BS CY DR BB DW DC GR EM GQ MH WZ AI ZC ZD NO JZ DQ LO ME OC FP HF MX KN SH PE KH Mn UG; simp only [CC, eq_self, implies_true, forall_const]
 have h : 0 <= a.k /\ a.k < a.l.length := h
 have e : comM ⟨gD a.l a.k.toNat, QR 1 λ _ => a.s⟩ = hJ (gD a.l a.k.toNat) a.s := rfl
 refine ⟨⟨h, by omega, by omega, λ j hj => by rw [IK _ _ _ hj]; exact ⟨rfl, rfl⟩, h, by omega⟩, λ i hi => ?_⟩
 rw [e]; unfold K6
 cases decide (i = a.k.toNat) <;> exact ⟨rfl, rfl⟩) (λ _ => YR rfl rfl) _
def addS (a s : Span) : Span := ⟨wr (a.lo + s.lo), wr (a.hi + s.hi)⟩
def subS (a s : Span) : Span := ⟨wr (a.lo - s.hi), wr (a.hi - s.lo)⟩
def fwM (l : List Span) (s : Nat -> Span) : Nat -> Span
 | 0 => gD l 0
 | g + 1 => hJ (gD l (g + 1)) (addS (fwM l s g) (s g))
def bkM (f s : Nat -> Span) (n : Nat) : Nat -> Span
 | 0 => f n
 | j + 1 => hJ (f (n - (j + 1))) (subS (bkM f s n j) (s (n - (j + 1))))
def YW (w : Dk) (l : List Span) : List Span := QR l.length λ i => bkM (fwM l (SZ w)) (SZ w) (l.length - 1) (l.length - 1 - i)
structure DkS where
 w : Dk
 l : List Span
def dDkS : List AVal -> Heap -> Option (DkS × List (Nat × Nat) × List Nat)
 | [.bptr id _, y], H => match oV H id, Vb y H with
  | some (w, q), some (l, f) => some (⟨w, l⟩, [(100, id), (101, q)], f)
  | _, _ => none
 | _, _ => none
def C_nar : Ctr := { ro := [100, 101], α := DkS, xs := λ a => [.bptr 100 0, .d (DA a.l)], L := λ a => dkL a.w, val := λ a => .tup [.d (DA (YW a.w a.l)), .bool ((YW a.w a.l).all Fa)], keep := λ a => dkK a.w, pre := λ a => [a.l.length = a.w.c.ms.length /\ 1 <= a.w.c.ms.length /\ a.w.c.ms.length <= 40] }
def nrH (a : DkS) (f : Nat -> Span) (p : AVal) : List (Nat × HCell) := dkK a.w ++ [(2016, .live (.row 2 a.l.length λ i => FX (f i))), (2032, .live (.box [.own 2016 2 0 a.l.length])), (3000, .live (.box [p]))]
def gpS (a : DkS) (l k : Nat) : List (Nat × AVal) := [(0, .fn (.yield l) [] []), (1, .bptr 4016 0), (12, .int (wr ((a.w.c.ms.length : Int) - 1))), (13, .int k)]
def gpB : Nat × HCell := (4016, .live (.box [.bptr 100 0]))
def gp1n (a : DkS) (l : Nat) : Shape := { α := One, dflt := default, T := λ _ => ⟨gpS a l 0, nrH a (gD a.l) (.d Rv) ++ [gpB]⟩, inv := λ _ => True, meas := λ _ => 60 }
def gp1o (a : DkS) (l : Nat) : Shape := { α := Nat, dflt := 0, T := λ k => ⟨gpS a l k, nrH a (gD a.l) (.own 302 2 0 k) ++ [gpB, (302, .live (.row 2 k λ i => FX (SZ a.w i)))]⟩, inv := λ k => 1 <= k /\ k <= a.w.c.ms.length - 1, meas := λ k => 50 - k, again := [(302, 6048)] }
noncomputable def BJN (a : DkS) : IterAnn := { fn := tX, code := AH tX, live := [6, 7], ann := { base := λ id => 100000 + 1000 * (id + 1), Γ := Sym.look [], E := [100, 101, 2016, 2032, 3000, 4016], n := 66, inner := λ gs id => if id = 1 then some [gp1n a (gs.getD 0 0), gp1o a (gs.getD 0 0)] else none } }
def nr6T (a : DkS) : One -> ST := λ _ => ⟨[(6, .bptr 2032 0), (7, .bptr 3000 0)], nrH a (gD a.l) (.d (DA (gapL a.w)))⟩
def nr6 (a : DkS) (z : List Nat) : Shape := { α := One, dflt := default, T := nr6T a, inv := λ _ => True, meas := λ _ => 0, ffz := z }
def nr7 (a : DkS) : Shape := { α := One, dflt := default, T := λ _ => ⟨[(6, .bptr 2032 0), (7, .bptr 3000 0), (10, .fn (.func yU) [] [.bptr 2032 0])], nrH a (gD a.l) (.d (DA (gapL a.w)))⟩, inv := λ _ => True, meas := λ _ => 0 }
def sX (a : DkS) (k i : Nat) : Span := bif decide (i <= k) then fwM a.l (SZ a.w) i else gD a.l i
def nrB (a : DkS) (j i : Nat) : Span := bif decide (a.w.c.ms.length - 1 - j <= i) then bkM (fwM a.l (SZ a.w)) (SZ a.w) (a.w.c.ms.length - 1) (a.w.c.ms.length - 1 - i) else fwM a.l (SZ a.w) i
def nr8 (a : DkS) : Shape := { α := Nat, dflt := 0, T := λ k => ⟨[(6, .bptr 2032 0), (7, .bptr 3000 0), (10, .fn (.func yU) [] [.bptr 2032 0]), (25, .d (DA (gapL a.w))), (26, .int (gapL a.w).length), (27, .int k)], nrH a (sX a k) (.d (DA (gapL a.w)))⟩, inv := λ k => k <= a.w.c.ms.length - 1, meas := λ k => 50 - k }
def nr13 (a : DkS) : Shape := { α := Nat, dflt := 0, T := λ j => ⟨[(6, .bptr 2032 0), (7, .bptr 3000 0), (10, .fn (.func yU) [] [.bptr 2032 0]), (13, .int ((a.w.c.ms.length : Int) - 2 - j))], nrH a (nrB a j) (.d (DA (gapL a.w)))⟩, inv := λ j => j <= a.w.c.ms.length - 1, meas := λ j => 50 - j }
noncomputable def BIW (a : DkS) : Ann := { ann 92 [(uA, C_clo.spec dSs1), (AHS, C_gaps.spec xG), (yU, C_nar1.spec AWC), (n_eS, C4SnO.spec BJR)] with E := [100, 101], mt := λ id => id == 5, iter := λ g => if g = lS then some (BJN a) else none, loops := λ id => if id = 8 then some [nr8 a] else if id = 13 then some [nr13 a] else none, cut := λ id => if id = 6 then some [nr6 a [], nr6 a [302]] else if id = 7 then some [nr7 a] else none }
def BHC (a : DkS) : Prop := CL Try.prog (BIW a) qR (AH qR) (C_nar.xs a) (AB (C_nar.L a)) (C_nar.val a) (C_nar.keep a) [] [2016]
abbrev WD:=DkS.l
abbrev Ar:=DkS.w
abbrev Xb:=YW
abbrev G7 a b:=AE a b b
abbrev Uv a b:=Kr (λ i=>BX a b)
abbrev Ju a:=Uv LG a
abbrev Ah a b:=And a (Ju b)
abbrev RE a b (c:Int->Nt):=YJ a b (λ i=>MM (c i))
abbrev GY a:=AV (Ar a)
abbrev ABU a b:=QU (GY a) b
abbrev Sz a:=AT (GY a)
abbrev Oy a:=AS (GY a)
abbrev Pw a:=AP (GY a)
abbrev Qa a:=AL (GY a)
abbrev Px a:=AM (GY a)
abbrev Zf a (b:Nat->Span):=Uf (WD a) b
abbrev Ei a b c:=Zf a (λ i=>nrB b c i)
abbrev Vo a b c:=BA (nrB a b c)
abbrev Bt a:=CU (WD a)
abbrev Dx a:=JV a 1
abbrev O7 a:=AW (GY a)
abbrev Kx a:=Dx (O7 a)
abbrev XG a:=gapL (Ar a)
abbrev gN a:=IZ (XG a)
abbrev gT a:=NO (XG a)
abbrev Hr a:=NO (WD a)
abbrev AFI a b:=Cs (NF (GY a)) b
abbrev WL a b:=Cs (AFI a 2) (BU b)
abbrev AIN a b:=FZ (WL a b)
abbrev Zg a b:=MH (AIN a b)
abbrev Hv a:=BT (λ i=>MM (ABU a i))
abbrev Wc a:=HB (Ar a)
abbrev Xn a:=lA (GY a)
abbrev Yf a b:=QZ a (Ar b)
abbrev Xh a:=NZ (GY a)
abbrev Jp a:=DB (GY a)
abbrev gU a:=RM (GY a)
abbrev Kd a:=DE (GY a)
abbrev cL a b c d e f g h:=AR a b c a d e f g h
abbrev Wd a b c d e f g h:=AR a b c c d e f g h
abbrev AAO a b c d e f g h:=AR a b c d e f d g h
abbrev VW a:=OZ (BU a)
abbrev gK a:=IZ (WD a)
abbrev PZ a b (c:Nat->Prop) d e f g h p:=IY (AT a) b c d e f g h p
abbrev Yq a b:=SZ (Ar a) b
abbrev dS a b:=BA (Yq a b)
abbrev QK a (b:Nat->Prop) c (d:Nat->Prop) e f (g:Int->Prop) (h:Int->Prop) p:=WB a b c d (IB e) f g h p
abbrev cR a b c d e f g h:=AR a b c d e f g g h
abbrev ABN a b c d e f g:=cR a b c d b e f g
abbrev Hz a b c:=pO a (KU b c)
abbrev Iw a b:=BO (GY a) b
abbrev PT a:=HV (CJ a)
abbrev Mx a:=BA (GA a)
abbrev dO a:=wr (AFI a 1)
abbrev Lm a:=(@Eq Fn) (Fn.yield a) (Fn.yield a)
abbrev RG a b c:=RD a b (DW b c)
abbrev UB a b c:=RG (DQ a b) c b
abbrev OB a:=CM a 1073741824
attribute [go_sem] WD Ar Xb G7 Uv Ju Ah RE GY ABU Sz Oy Pw Qa Px Zf Ei Vo Bt Dx O7 Kx XG gN gT Hr AFI WL AIN Zg Hv Wc Xn Yf Xh Jp gU Kd cL Wd AAO VW gK PZ Yq dS QK cR ABN Hz Iw PT Mx dO Lm RG UB OB
theorem BKR (a : DkS) : (BHC a) = (ND (NA (WD a) (Bt a)) (VX (WD a)) (MB (MQ (WD a))) (OB (MQ (WD a))) (G7 (MU (AN (Px a) (Qa a) (Pw a) (DF (Oy a) (Sz a) (BM (GY a)) (SE (GY a)) (BK (GY a)) (JB (GY a)) (λ i=>Yf i a) BL (FR (PH (GY a)) (Wc a) (BT (λ i=>HZ (GY a) i (ABU a i))) (GY a) (QP (CA (GY a)) (λ i=>EE i (GY a)) (BZ (GY a)) (λ i=>CP i (GY a)) (IB (Ar a)) BL (λ i=>ZI (GY a) i) (λ i=>MC (Ar a) i) (λ i=>JU (ABU a i) (GY a) i))))) (λ i=>IF (LZ (CI (Lm i) (AQ (dO a) (OZ (NF (GY a)))) AJ (Px a) (Qa a) (Pw a) (DF (Oy a) (Sz a) (Kd a) (gU a) (Jp a) (Xh a) (λ j=>Yf j a) BL (AAO (Xn a) (Wc a) (Hv a) (LO (WD a) (MQ (WD a))) (NU (Bt a) (WD a) (PM (WD a))) AI AI GV)))) (Ju (DX (IS 0 (dO a)) (AN (UB (CJ 0) (O7 a) (BU 0)) (DG 0 40) (ME 0 40) (JM (LW (Ar a) 0) (BC i) (AG Do VZ Cd Ay Ja) (GW (λ j=>JP (FR (Lm i) (AF (dO a)) (BH j 0) (GY a) (QK (Kd a) (λ k=>EB k (GY a)) (Jp a) (λ k=>CH k (GY a)) (Ar a) BL (λ k=>ZA (GY a) k) (λ k=>MC (Ar a) k) (ABN (Hv a) (Hr a) (gK a) AI AI (NN j) (AC (λ k=>KH k j (dS a k) (Hz (Mx (GY a)) (Iw a (PT 0)) (Iw a 0)) (Yq a k) 200000000))))) (KJ j (Kx a)) 50 j 60)) (AE (BC i) (AG Do VZ Cd Ay Ja) (GW (λ j=>JP (FR (Lm i) (AF (dO a)) (BH j 0) (GY a) (QK (Kd a) (λ k=>EB k (GY a)) (Jp a) (λ k=>CH k (GY a)) (Ar a) BL (λ k=>ZA (GY a) k) (λ k=>MC (Ar a) k) (ABN (Hv a) (Hr a) (gK a) AI AI (NN j) (AC (λ k=>KH k j (dS a k) (Hz (Mx (GY a)) (Iw a (PT 0)) (Iw a 0)) (Yq a k) (Hz (BI (GA (GY a))) (Iw a (PT 0)) (Iw a 0))))))) (KJ j (Kx a)) 50 j 60))))) (LZ (AN (Px a) (Qa a) (Pw a) (DF (Oy a) (Sz a) (Kd a) (gU a) (Jp a) (Xh a) (λ j=>Yf j a) BL (AAO (Xn a) (Wc a) (Hv a) (Hr a) (gK a) AI (Fe (XG a)) (Fe (XG a)))))))) (λ j=>BX (KJ j (Kx a)) (DX (IS j (dO a)) (AN (UB (CJ j) (O7 a) (BU j)) (DG j 40) (ME j 40) (JM (LW (Ar a) j) (BC i) (PA (Jo j j) VZ ZF (Cr j) (Jt j)) (GW (λ k=>DU (FR (Lm i) (AF (dO a)) (BH k j) (GY a) (QK (Kd a) (λ l=>EB l (GY a)) (Jp a) (λ l=>CH l (GY a)) (Ar a) BL (λ l=>ZA (GY a) l) (λ l=>MC (Ar a) l) (ABN (Hv a) (Hr a) (gK a) AI AI (VH k j) (AC (λ l=>KH l k (dS a l) (OU l j (dS a l) (Hz (Mx (GY a)) (Iw a (PT j)) (Iw a j))) (Yq a l) (OU l j (BI (Yq a l)) 200000000)))))) (KJ k (Kx a)) 50 k j)) (AE (BC i) (PA (Jo j j) VZ ZF (Cr j) (Jt j)) (GW (λ k=>DU (FR (Lm i) (AF (dO a)) (BH k j) (GY a) (QK (Kd a) (λ l=>EB l (GY a)) (Jp a) (λ l=>CH l (GY a)) (Ar a) BL (λ l=>ZA (GY a) l) (λ l=>MC (Ar a) l) (ABN (Hv a) (Hr a) (gK a) AI AI (VH k j) (AC (λ l=>KH l k (dS a l) (OU l j (dS a l) (Hz (Mx (GY a)) (Iw a (PT j)) (Iw a j))) (Yq a l) (OU l j (BI (Yq a l)) (Hz (BI (GA (GY a))) (Iw a (PT j)) (Iw a j)))))))) (KJ k (Kx a)) 50 k j))))) (LZ (AG (Px a) (Qa a) (Pw a) (Oy a) (PZ (GY a) (Kd a) (λ k=>EB k (GY a)) (Jp a) (Xh a) (IB (Ar a)) BL (Xn a) (AR (Wc a) (Hv a) (Hr a) (gK a) AI (Hr a) (LO (XG a) j) (NP j) (AC (λ k=>UG k (XG a) k (dS a (BB k)) (Yq a (BB k)))))))))))) (Ju (Ah (LZ (AN (Px a) (Qa a) (Pw a) (DF (Oy a) (Sz a) (Kd a) (gU a) (Jp a) (Xh a) (λ i=>Yf i a) BL (AAO (Xn a) (Wc a) (Hv a) (Hr a) (gK a) AI (gT a) (gN a))))) (DY (λ i=>TD (HP (gT a) (gN a) (Mg (XG a)) (BR i) (Px a) (Qa a) (Pw a) (DF (Oy a) (Sz a) (Kd a) (gU a) (Jp a) (Xh a) (λ j=>Yf j a) BL (AAO (Xn a) (Wc a) (Hv a) (Hr a) (AC (λ j=>JZ j (Bt a) (BA (sX a i j)) (EM (WD a) j) (sX a i j) (LU (WD a) j))) AI (gT a) (gN a)))) i (Kx a)) (λ i=>BX (LL i (Kx a)) (JM (HG i (CU (XG a))) (ZW i (XG a)) (CI (DG i (Bt a)) (CM (BB i) (Bt a)) (DG i (Bt a)) (CM (BB i) (Bt a)) (AF (CJ i)) (AF (GF (BA (sX a i (BB i))) (EM (XG a) i))) (Wd (AF (GF (BI (sX a i (BB i))) (MX (XG a) i))) AI (HO (Zf a (λ j=>sX a i j)) (WD a)) (AC (λ j=>UG j (Zf a (λ k=>sX a i k)) j (BA (sX a i j)) (sX a i j))) AI (HO (WD a) (Zf a (λ j=>sX a i j))) (DC (CJ i)) (DW (CJ i) (CU (Zf a (λ j=>sX a i j)))))) (GW (λ j=>Aa (HP (gT a) (gN a) (Mg (XG a)) (BH j i) (Px a) (Qa a) (Pw a) (DF (Oy a) (Sz a) (Kd a) (gU a) (Jp a) (Xh a) (λ k=>Yf k a) BL (AR (Xn a) (Wc a) (Hv a) (HO (WD a) (Zf a (λ k=>sX a i k))) (AC (λ k=>JZ k (Bt a) (BA (sX a j k)) (BA (K6 (Zf a (λ l=>sX a i l)) (CJ i) (Di (GF (BA (sX a i (BB i))) (EM (XG a) i)) (GF (BI (sX a i (BB i))) (MX (XG a) i))) k)) (sX a j k) (K6 (Zf a (λ l=>sX a i l)) (CJ i) (Di (GF (BA (sX a i (BB i))) (EM (XG a) i)) (GF (BI (sX a i (BB i))) (MX (XG a) i))) k))) AI (Hr a) (gT a) (gN a)))) j (Kx a) 50 j i)) (DY (λ j=>TD (AG (AQ (WL a j) (VW (CU (XG a)))) (Px a) (Qa a) (Pw a) (DF (Oy a) (Sz a) (Kd a) (gU a) (Jp a) (Xh a) (λ k=>Yf k a) BL (AAO (Xn a) (Wc a) (Hv a) (Hr a) (AC (λ k=>JZ k (Bt a) (Vo a j k) (BA (sX a i k)) (nrB a j k) (sX a i k))) AI (gT a) (gN a)))) j (Kx a)) (λ j=>HX (LL j (Kx a)) (Kc (WL a j)) (cL (DQ (AIN a j) (Bt a)) (CM (Zg a j) (Bt a)) (DQ (WL a j) (CU (XG a))) (CM (Zg a j) (Bt a)) (DQ (WL a j) (CU (XG a))) (AF (WL a j)) (AF (KU (Vo a j (Zg a j)) (MX (XG a) (HV (WL a j))))) (Wd (AF (KU (BI (nrB a j (Zg a j))) (EM (XG a) (HV (WL a j))))) AI (HO (Ei a a j) (WD a)) (AC (λ k=>UG k (Ei a a j) k (Vo a j k) (nrB a j k))) AI (HO (WD a) (Ei a a j)) (DC (WL a j)) (DW (WL a j) (CU (Ei a a j))))) (GW (λ k=>Aa (AG (AQ (WL a k) (OZ (WL a j))) (Px a) (Qa a) (Pw a) (DF (Oy a) (Sz a) (Kd a) (gU a) (Jp a) (Xh a) (λ l=>Yf l a) BL (AR (Xn a) (Wc a) (Hv a) (HO (WD a) (Ei a a j)) (AC (λ l=>JZ l (Bt a) (Vo a k l) (BA (K6 (Ei a a j) (WL a j) (Di (KU (Vo a j (Zg a j)) (MX (XG a) (HV (WL a j)))) (KU (BI (nrB a j (Zg a j))) (EM (XG a) (HV (WL a j))))) l)) (nrB a k l) (K6 (Ei a a j) (WL a j) (Di (KU (Vo a j (Zg a j)) (MX (XG a) (HV (WL a j)))) (KU (BI (nrB a j (Zg a j))) (EM (XG a) (HV (WL a j))))) l))) AI (Hr a) (gT a) (gN a)))) k (Kx a) 50 k j)) (AE (Kh (YT (HO (Ei a a j) (WD a)) (AG (AC (λ k=>UG k (Ei a a j) k (Vo a j k) (nrB a j k))) (HO (WD a) (Ei a a j)) (AC (λ k=>JZ k (Bt a) (Vo a j k) (EM (Ei a a j) k) (nrB a j k) (LU (Ei a a j) k))) (EJ (CU (Ei a a j))) LG))) (HO (Xb (Ar a) (WD a)) (WD a)) (BY (NP (Bt a)) (λ k=>UG k (Xb (Ar a) (WD a)) k (Vo a j (BB k)) (nrB a j (BB k))) (KY (kH (Xb (Ar a) (WD a)) Fa) (kH (Ei a a j) Fa)) (Px a) (Qa a) (Pw a) (Oy a) (Sz a) (RE (GY a) (Ar a) (λ k=>ABU a k))))))))))))) := by kernel_rfl
theorem AQX {L : Nat} {f : Nat -> Span} {k : Int} {s : Span} {i : Nat} (hi : i < L) (hk : k.toNat < L) : K6 (QR L f) k s i = bif decide (i = k.toNat) then hJ (f k.toNat) s else f i := by
 unfold K6; rw [IK _ _ _ hi, IK _ _ _ hk]
theorem BBW (a : DkS) {k i : Nat} (hk : k + 1 < a.l.length) (hi : i < a.l.length) : sX a (k + 1) i = K6 (QR a.l.length λ i => sX a k i) ((k + 1 : Nat) : Int) (addS (sX a k k) (SZ a.w k)) i := by
 rw [AQX hi (by show k + 1 < _; exact hk)]
 show _ = bif decide (i = k + 1) then hJ (sX a k (k + 1)) _ else _
 by_cases h : i = k + 1
 ·subst h
  simp only [sX, Nat.le_refl, decide_true, cond_true, show ¬ k + 1 <= k by omega, decide_false, cond_false]
  rfl
 ·have e : decide (i <= k + 1) = decide (i <= k) := by rw [decide_eq_decide]; omega
  simp only [sX, h, e, decide_false, cond_false]
theorem AUA (a : DkS) {j i : Nat} (hl : a.l.length = a.w.c.ms.length) (hj : j + 2 <= a.l.length) (hi : i < a.l.length) : nrB a (j + 1) i = K6 (QR a.l.length λ i => nrB a j i) ((a.w.c.ms.length - 2 - j : Nat) : Int) (subS (nrB a j (a.w.c.ms.length - 2 - j + 1)) (SZ a.w (a.w.c.ms.length - 2 - j))) i := by
 rw [AQX hi (by show a.w.c.ms.length - 2 - j < _; omega)]
 show _ = bif decide (i = a.w.c.ms.length - 2 - j) then hJ (nrB a j (a.w.c.ms.length - 2 - j)) _ else _
 by_cases h : i = a.w.c.ms.length - 2 - j
 ·have e1 : decide (a.w.c.ms.length - 1 - (j + 1) <= i) = true := by rw [decide_eq_true_eq]; omega
  have e2 : decide (a.w.c.ms.length - 1 - j <= a.w.c.ms.length - 2 - j) = false := by rw [decide_eq_false_iff_not]; omega
  have e3 : decide (a.w.c.ms.length - 1 - j <= a.w.c.ms.length - 2 - j + 1) = true := by rw [decide_eq_true_eq]; omega
  have e4 : a.w.c.ms.length - 1 - i = j + 1 := by omega
  have e5 : a.w.c.ms.length - 1 - (a.w.c.ms.length - 2 - j + 1) = j := by omega
  have e6 : a.w.c.ms.length - 1 - (j + 1) = a.w.c.ms.length - 2 - j := by omega
  have e7 : decide (i = a.w.c.ms.length - 2 - j) = true := by rw [decide_eq_true_eq]; exact h
  have e8 : decide (a.w.c.ms.length - 2 - j <= i) = true := by rw [decide_eq_true_eq]; omega
  rw [e7]
  simp only [nrB, e2, e3, e4, e5, cond_true, cond_false, bkM, e6, e8]
 ·have e1 : decide (a.w.c.ms.length - 1 - (j + 1) <= i) = decide (a.w.c.ms.length - 1 - j <= i) := by rw [decide_eq_decide]; omega
  simp only [nrB, h, e1, decide_false, cond_false]
theorem BPW (a : DkS) (h : a.l.length = a.w.c.ms.length /\ 1 <= a.w.c.ms.length /\ a.w.c.ms.length <= 40) : BHC a := by
 obtain ⟨hl, h1, h2⟩ := h
 have e1 : wr ((a.w.c.ms.length : Int) - 1) = ((a.w.c.ms.length - 1 : Nat) : Int) := by unfold wr; rw [Dh (by omega) (by omega)]; omega
 have e2 : IntKind.i64.wrap ((a.w.c.ms.length : Int) - 1) = ((a.w.c.ms.length - 1 : Nat) : Int) := e1
 have gl : (gapL a.w).length = a.w.c.ms.length - 1 := rng_length _ _
 have gg : ∀ {j : Nat}, j < a.w.c.ms.length - 1 -> gD (gapL a.w) j = SZ a.w j := λ hj => IK _ _ _ hj
 have lo : ∀ k, (SZ a.w k).lo = IntKind.i64.wrap (a.w.c.p.lo * IntKind.i64.wrap ((gD a.w.c.ms (k + 1)).pl - (gD a.w.c.ms k).pl)) := λ _ => rfl
 have hi1 : ∀ k, a.w.sp k = true -> (SZ a.w k).hi = 200000000 := λ k h => by unfold SZ; rw [h]; rfl
 have hi0 : ∀ k, a.w.sp k = false -> (SZ a.w k).hi = IntKind.i64.wrap (a.w.c.p.hi * IntKind.i64.wrap ((gD a.w.c.ms (k + 1)).pl - (gD a.w.c.ms k).pl)) := λ k h => by unfold SZ; rw [h]; rfl
 have ws : ∀ {k : Nat}, k < 40 -> IntKind.i64.wrap ((k : Int) + 1) = ((k + 1 : Nat) : Int) := λ h => FH (by omega)
 rw [BKR]<;> delta KY lI Aq BA BI FW OH PR Cs EX FI CE CU AC BX CM AQ LU BU WF DH DX IP HD LS PG JV ER GP GA HQ HT HC HR DS GB ED GW LG Ak kH IX HV QT SX BT PO LL YY AV LW Re Di Wz Kr WD Ar Xb AE BG AW EO GJ GI AG GM BF BE CK QU AR CN BD AF G7 JJ CG BC EZ Tz YT cL Wd cR ABN AAO AO CQ GT BS CV CY BO GY HK CR DD AL KA CF AM AT DM DR DZ GF GG BB DW AS DJ EG FC Ic AP EY FG FS EN Uf DC DB CS HW FV GR FZ JD DF KU FK HA RY QW KB LQ FU EM FE ET DE CJ GQ AN BY LP FY FJ EV EJ KD DI MH BL MF XQ JS OZ Tx FL JE HY JH AI LR OK LV JG XJ BH HL ABU JI ZC ZA JQ OM KV JP ZD NO DV JZ PM DQ MQ DG BK QZ IT EB MC KF NF LM LX OJ MR IB MG WB LO HB KE KR MO IS KC MU OV Dj QS QY XG QP HG TR HX ME pO DU BM BZ CA EP FQ AZ TW CH AJ IY JC SS OC CI PC YM PT BR BW JN SI Dx IZ VW TI AFI HF MB DY HP Zf MM FF RP LA MJ GO KL Jd MX TV ZH RD ZJ HO TE Ee XY Bv LZ SH HZ Gh NP EE NW ZI BJ SG NZ lA XV JM KJ GV WL OU JU SC ZF RG CP NB KH OB NN WY O7 RM YJ FR NU IF NA Fe Bt PH RE Yq Uv VH ND JB Ei Hx Hr Kd Kc VZ Jp Kx Ju Hv Iw Pt Aa PA Ie UB Is TD Pw Ab Cd SE Oy Ay Wc PZ UG VX Px Mx Cr Pc Ah Qa ZW Lm Do Kh Xn Mg Hz Vo Sz Yf AIN Jt gN Xh gT Ja gU QK Jo gK Zg dS dO; simp only [CC, eq_self, implies_true, forall_const]; simp only [e1, e2, gl, hl]
 refine ⟨by omega, ⟨⟨default, trivial⟩, ⟨λ h0 => ?_, λ h0 => ⟨default, by omega⟩⟩, λ k hk => ⟨λ hlt => ?_, λ hge => ⟨default, by omega, Nat.le_refl _, λ j hj => by rw [gg hj]; exact ⟨rfl, rfl⟩⟩⟩⟩, ⟨default, trivial⟩, ⟨0, ⟨rfl, λ i hi => ?_⟩, Nat.zero_le _⟩, λ k hk => ⟨λ hlt => ?_, λ hge => ⟨⟨0, ⟨?_, λ i hi => ?_⟩, Nat.zero_le _⟩, λ j hj => ⟨λ hlt => ?_, λ hlt => ?_⟩⟩⟩⟩
 ·simp only [ws (show (0 : Nat) < 40 by omega), Int.toNat_natCast]
  refine ⟨by omega, by omega, by omega, λ h => ⟨by simp, 1, ⟨rfl, rfl, rfl, λ i hi => ?_⟩, by omega, by omega⟩, λ h => ⟨by simp, 1, ⟨rfl, rfl, rfl, λ i hi => ?_⟩, by omega, by omega⟩⟩
  ·obtain rfl : i = 0 := by omega
   exact ⟨lo 0, hi1 0 h⟩
  ·obtain rfl : i = 0 := by omega
   exact ⟨lo 0, hi0 0 h⟩
 ·simp only [ws (show k < 40 by omega), Int.toNat_natCast]
  refine ⟨by omega, by omega, by omega, λ h => ⟨⟨by omega, (λ h => by cases h), by omega, by omega⟩, k + 1, ⟨rfl, rfl, rfl, λ i hi => ?_⟩, by omega, by omega⟩, λ h => ⟨⟨by omega, (λ h => by cases h), by omega, by omega⟩, k + 1, ⟨rfl, rfl, rfl, λ i hi => ?_⟩, by omega, by omega⟩⟩
  ·by_cases q : i < k
   ·simp only [q, decide_true, cond_true, and_self]
   ·obtain rfl : i = k := by omega
    simp only [q, decide_false, cond_false]
    exact ⟨lo i, hi1 i h⟩
  ·by_cases q : i < k
   ·simp only [q, decide_true, cond_true, and_self]
   ·obtain rfl : i = k := by omega
    simp only [q, decide_false, cond_false]
    exact ⟨lo i, hi0 i h⟩
 ·by_cases q : i = 0
  ·subst q; exact ⟨rfl, rfl⟩
  ·have : ¬ i <= 0 := by omega
   simp only [sX, this, decide_false, cond_false, and_self]
 ·simp only [ws (show k < 40 by omega)]
  refine ⟨by omega, ⟨by omega, by omega, by omega, by omega, λ i hi => by rw [IK _ _ _ hi]; exact ⟨rfl, rfl⟩, by omega, by omega⟩, k + 1, ⟨rfl, λ i hi => ?_⟩, by omega, by omega⟩
  have e := BBW a (k := k) (i := i) (by omega) (by omega)
  rw [gg (by omega), e, hl]; exact ⟨rfl, rfl⟩
 ·rw [Dh (by omega) (by omega)]; omega
 ·obtain rfl : k = a.w.c.ms.length - 1 := by omega
  have q1 : decide (i <= a.w.c.ms.length - 1) = true := by rw [decide_eq_true_eq]; omega
  unfold nrB sX; rw [q1]
  by_cases q : a.w.c.ms.length - 1 - 0 <= i
  ·have q2 : a.w.c.ms.length - 1 - i = 0 := by omega
   have q3 : i = a.w.c.ms.length - 1 := by omega
   simp only [q, decide_true, cond_true, q2, bkM]; rw [<- q3]; exact ⟨rfl, rfl⟩
  ·simp only [q, decide_false, cond_false, cond_true, and_self]
 ·have g0 : (a.w.c.ms.length : Int) - 2 - j = ((a.w.c.ms.length - 2 - j : Nat) : Int) := by omega
  have g1 : IntKind.i64.wrap (((a.w.c.ms.length - 2 - j : Nat) : Int) + 1) = ((a.w.c.ms.length - 2 - j + 1 : Nat) : Int) := ws (by omega)
  simp only [g0, g1, Int.toNat_natCast]
  refine ⟨⟨by omega, by omega, by omega, by omega, by omega, by omega, λ i hi => by rw [IK _ _ _ hi]; exact ⟨rfl, rfl⟩, by omega, by omega⟩, j + 1, ⟨?_, λ i hi => ?_⟩, by omega, by omega⟩
  ·rw [Dh (by omega) (by omega)]; omega
  ·have e := AUA a (j := j) (i := i) hl (by omega) (by omega)
   rw [gg (by omega), e, hl]; exact ⟨rfl, rfl⟩
 ·have q : j = a.w.c.ms.length - 1 := by omega
  have eq1 : ∀ i, i < a.w.c.ms.length -> gD (YW a.w a.l) i = nrB a j i := λ i hi => by
   unfold YW; rw [IK _ _ _ (by omega), hl]
   have q2 : decide (a.w.c.ms.length - 1 - j <= i) = true := by rw [decide_eq_true_eq]; omega
   unfold nrB; rw [q2]; rfl
  have nl : (YW a.w a.l).length = a.w.c.ms.length := by unfold YW; rw [rng_length, hl]
  refine ⟨⟨λ i hi => by rw [IK _ _ _ hi]; exact ⟨rfl, rfl⟩, λ i hi => by rw [IK _ _ _ hi]; exact ⟨rfl, rfl⟩, by omega⟩, nl, Nat.le_refl _, λ i hi => by rw [eq1 i (by omega)]; exact ⟨rfl, rfl⟩, ?_⟩
  congr 1
  exact ANJ (by rw [nl, rng_length]) λ i hi => by rw [eq1 i (by omega), IK _ _ _ (by omega)]
theorem AML : AK Try.prog So (C_nar.spec dDkS) := XM C_nar BIW [] [2016] AJQ (λ _ => by kernel_rfl) (λ _ => AA AXL (AA APB (AA BCO (AA BLY AD)))) (λ a h => BPW a h) (λ a => BJG lS (BJN a) rfl rfl AD AKH (by kernel_rfl) (by kernel_rfl)) _
end Go.Bal
