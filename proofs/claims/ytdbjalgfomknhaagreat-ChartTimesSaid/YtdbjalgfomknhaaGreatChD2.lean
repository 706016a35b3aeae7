/- Package chart: times are narrowed. -/
import Derived.Test.YtdbjalgfomknhaaGreatChD1
set_option linter.unusedVariables false
set_option linter.unusedSimpArgs false
namespace Go.Bal
open Go Go.Sym Go.Proofs
def C_gaps : Ctr := { ro := [100, 101], α := Dk, xs := λ _ => [.bptr 100 0], L := λ w => dkL w, val := λ _ => .fn (.func Kn) [] [.bptr 0 0], keep := λ w => dkK w ++ [(0, .live (.box [.bptr 100 0]))] }
def BCL : Ann := { ann 4 [] with E := [100, 101] }
def BDM (w : Dk) : Prop := CH Try.prog BCL ATM (AH ATM) (C_gaps.xs w) (AB (C_gaps.L w)) (C_gaps.val w) (C_gaps.keep w) [(0, 1000)] []
theorem BLA (w : Dk) : (BDM w) = (EW (LZ w) (LR w) (NT w) (OD w) (OE w) (SG (AL w) w)) := by kernel_rfl
theorem zH : AJ Try.prog H3 (C_gaps.spec Ze) := XP C_gaps (λ _ => BCL) [(0, 1000)] [] BIU (λ _ => by kernel_rfl) (λ _ => AC) (λ (w : Dk) _ => by
 show BDM w; rw [BLA]<;> delta KH BG BJ EC ES ET BW AD BU CL AR EJ GW EX HP HN HJ GT GB HC DU GG FE NY EU MP AL JO AE CR BB AF AY AU RA AG BC FD AX BM CJ AK AN DD BH BY CX CY BS CE QX AV AQ EV DW AZ CP AS OT AP AT BX NE HD CG OK DC BT UR NF KZ VU PZ GJ LQ DX SV OI EW BK JF KQ MC LR LZ TG XM OD NT OE SG; simp) (λ _ => YS rfl rfl) _
def farM (c : Cht) (g : Nat) : Int := wr ((gD c.ms (g + 1)).pl - (gD c.ms g).pl)
def HR (w : Dk) (g : Nat) : Span := ⟨wr (w.c.p.lo * farM w.c g), bif w.sp g then 200000000 else wr (w.c.p.hi * farM w.c g)⟩
def gapL (w : Dk) : List Span := IK (w.c.ms.length - 1) λ g => HR w g
structure LIS where
 l : List Span
 k : Int
 s : Span
def upd1 (l : List Span) (k : Int) (s : Span) (i : Nat) : Span := bif decide (i = k.toNat) then bK (gD l k.toNat) s else gD l i
def lkR (n : Nat) (f : Nat -> Span) : List (Nat × HCell) := [(100, .live (.box [.own 101 2 0 n])), (101, .live (.row 2 n λ i => IL (f i)))]
def C_nar1 : Ctr := { ro := [100], α := LIS, xs := λ a => [.int a.k, .d (IL a.s), .bptr 100 0], L := λ a => [(100, .box [.own 101 2 0 a.l.length]), (101, rowS a.l)], val := λ _ => .d (.tup []), keep := λ a => lkR a.l.length (upd1 a.l a.k a.s), pre := λ a => [0 <= a.k /\ a.k < a.l.length] }
def BAJ : List AVal -> Heap -> Option (LIS × List (Nat × Nat) × List Nat)
 | [.d k, .d s, .bptr id _], H => match H id with
  | .live (.box [.own j _ _ _]) => match H j with
   | .live (.row _ n g) => some (⟨IK n λ i => Ni (g i), HK k, Ni s⟩, [(100, id), (101, j)], [])
   | _ => none
  | _ => none
 | _, _ => none
def BIS : Ann := { ann 15 [(fK, C_com.spec AOC)] with E := [100, 101] }
def BBU (a : LIS) : Prop := CH Try.prog BIS ASL (AH ASL) (C_nar1.xs a) (AB (C_nar1.L a)) (C_nar1.val a) (C_nar1.keep a) [] []
abbrev Zl:=LIS.k
abbrev Ud:=LIS.l
abbrev zL:=LIS.s
abbrev WB a b:=CD a (ED b)
abbrev bF a b:=CL a (ED b)
attribute [go_sem] Zl Ud zL WB bF
theorem BKM (a : LIS) : (BBU a) = (Wu (And (WB (Zl a) (Ud a)) (AK (bF (UU (Zl a)) (Ud a)) (Ct (Ud a) (UU (Zl a))) (AZ (GK (Ud a) (UU (Zl a)))) (JU (Bb (zL a)) 1) MG (AD (λ i=>EY i (Bb (zL a)) (zL a))) GF (WB (Zl a) (Ud a)) (NW (Zl a) (ED (Ud a))))) (KC (Ud a)) (λ i=>JY i (Ud a) (BP (upd1 (Ud a) (Zl a) (zL a) i) (JJ i (Zl a) (BG (Ps (GK (Ud a) (UU (Zl a))) (Bb (zL a)))) (PT (Ud a) i))) (AY (upd1 (Ud a) (Zl a) (zL a) i) (JJ i (Zl a) (BJ (Ps (GK (Ud a) (UU (Zl a))) (Bb (zL a)))) (RN (Ud a) i))))) := by kernel_rfl
theorem AXD : AJ Try.prog T7 (C_nar1.spec BAJ) := XP C_nar1 (λ _ => BIS) [] [] BKK (λ _ => by kernel_rfl) (λ _ => AA ANG AC) (λ (a : LIS) h => by
 show BBU a; rw [BKM]<;> delta KH BG BJ BW ED AD BU CL AR GK BZ DJ HO KB Ef JL FY QC KI YM Wj Zl Ud zL AE AF AY AU AG BC FD Nc jW AX BM AK BH BP BN AZ DM BV CN GP FH AI UU CD JY KC LI JU Ca Ct PI GF EY MG PT RN JJ NW Bb WB Yz bF Wu Ps; simp only [CC, eq_self, implies_true, forall_const]
 have h : 0 <= a.k /\ a.k < a.l.length := h
 have e : comM ⟨gD a.l a.k.toNat, IK 1 λ _ => a.s⟩ = bK (gD a.l a.k.toNat) a.s := rfl
 refine ⟨⟨h, by omega, by omega, λ j hj => by rw [FF _ _ _ hj]; exact ⟨rfl, rfl⟩, h, by omega⟩, λ i hi => ?_⟩
 rw [e]; unfold upd1
 cases decide (i = a.k.toNat) <;> exact ⟨rfl, rfl⟩) (λ _ => YS rfl rfl) _
def addS (a s : Span) : Span := ⟨wr (a.lo + s.lo), wr (a.hi + s.hi)⟩
def subS (a s : Span) : Span := ⟨wr (a.lo - s.hi), wr (a.hi - s.lo)⟩
def fwM (l : List Span) (s : Nat -> Span) : Nat -> Span
 | 0 => gD l 0
 | g + 1 => bK (gD l (g + 1)) (addS (fwM l s g) (s g))
def bkM (f s : Nat -> Span) (n : Nat) : Nat -> Span
 | 0 => f n
 | j + 1 => bK (f (n - (j + 1))) (subS (bkM f s n j) (s (n - (j + 1))))
def OH (w : Dk) (l : List Span) : List Span := IK l.length λ i => bkM (fwM l (HR w)) (HR w) (l.length - 1) (l.length - 1 - i)
structure DkS where
 w : Dk
 l : List Span
def dDkS : List AVal -> Heap -> Option (DkS × List (Nat × Nat) × List Nat)
 | [.bptr id _, y], H => match tE H id, Wv y H with
  | some (w, q), some (l, f) => some (⟨w, l⟩, [(100, id), (101, q)], f)
  | _, _ => none
 | _, _ => none
def C_nar : Ctr := { ro := [100, 101], α := DkS, xs := λ a => [.bptr 100 0, .d (DE a.l)], L := λ a => dkL a.w, val := λ a => .tup [.d (DE (OH a.w a.l)), .bool ((OH a.w a.l).all Du)], keep := λ a => dkK a.w, pre := λ a => [a.l.length = a.w.c.ms.length /\ 1 <= a.w.c.ms.length /\ a.w.c.ms.length <= 40] }
def nrH (a : DkS) (f : Nat -> Span) (p : AVal) : List (Nat × HCell) := dkK a.w ++ [(2016, .live (.row 2 a.l.length λ i => IL (f i))), (2032, .live (.box [.own 2016 2 0 a.l.length])), (3000, .live (.box [p]))]
def gpS (a : DkS) (l k : Nat) : List (Nat × AVal) := [(0, .fn (.yield l) [] []), (1, .bptr 4016 0), (12, .int (wr ((a.w.c.ms.length : Int) - 1))), (13, .int k)]
def gpB : Nat × HCell := (4016, .live (.box [.bptr 100 0]))
def gp1n (a : DkS) (l : Nat) : Shape := { α := One, dflt := default, T := λ _ => ⟨gpS a l 0, nrH a (gD a.l) (.d Jn) ++ [gpB]⟩, inv := λ _ => True, meas := λ _ => 60 }
def gp1o (a : DkS) (l : Nat) : Shape := { α := Nat, dflt := 0, T := λ k => ⟨gpS a l k, nrH a (gD a.l) (.own 302 2 0 k) ++ [gpB, (302, .live (.row 2 k λ i => IL (HR a.w i)))]⟩, inv := λ k => 1 <= k /\ k <= a.w.c.ms.length - 1, meas := λ k => 50 - k, again := [(302, 6048)] }
noncomputable def BAZ (a : DkS) : IterAnn := { fn := Un, code := AH Un, live := [6, 7], ann := { base := λ id => 100000 + 1000 * (id + 1), Γ := Sym.look [], E := [100, 101, 2016, 2032, 3000, 4016], n := 66, inner := λ gs id => if id = 1 then some [gp1n a (gs.getD 0 0), gp1o a (gs.getD 0 0)] else none } }
def nr6T (a : DkS) : One -> ST := λ _ => ⟨[(6, .bptr 2032 0), (7, .bptr 3000 0)], nrH a (gD a.l) (.d (DE (gapL a.w)))⟩
def nr6 (a : DkS) (z : List Nat) : Shape := { α := One, dflt := default, T := nr6T a, inv := λ _ => True, meas := λ _ => 0, ffz := z }
def nr7 (a : DkS) : Shape := { α := One, dflt := default, T := λ _ => ⟨[(6, .bptr 2032 0), (7, .bptr 3000 0), (10, .fn (.func T7) [] [.bptr 2032 0])], nrH a (gD a.l) (.d (DE (gapL a.w)))⟩, inv := λ _ => True, meas := λ _ => 0 }
def nrF (a : DkS) (k i : Nat) : Span := bif decide (i <= k) then fwM a.l (HR a.w) i else gD a.l i
def qT (a : DkS) (j i : Nat) : Span := bif decide (a.w.c.ms.length - 1 - j <= i) then bkM (fwM a.l (HR a.w)) (HR a.w) (a.w.c.ms.length - 1) (a.w.c.ms.length - 1 - i) else fwM a.l (HR a.w) i
def nr8 (a : DkS) : Shape := { α := Nat, dflt := 0, T := λ k => ⟨[(6, .bptr 2032 0), (7, .bptr 3000 0), (10, .fn (.func T7) [] [.bptr 2032 0]), (25, .d (DE (gapL a.w))), (26, .int (gapL a.w).length), (27, .int k)], nrH a (nrF a k) (.d (DE (gapL a.w)))⟩, inv := λ k => k <= a.w.c.ms.length - 1, meas := λ k => 50 - k }
def nr13 (a : DkS) : Shape := { α := Nat, dflt := 0, T := λ j => ⟨[(6, .bptr 2032 0), (7, .bptr 3000 0), (10, .fn (.func T7) [] [.bptr 2032 0]), (13, .int ((a.w.c.ms.length : Int) - 2 - j))], nrH a (qT a j) (.d (DE (gapL a.w)))⟩, inv := λ j => j <= a.w.c.ms.length - 1, meas := λ j => 50 - j }
noncomputable def AWB (a : DkS) : Ann := { ann 92 [(yI, C_clo.spec dSs1), (H3, C_gaps.spec Ze), (T7, C_nar1.spec BAJ), (n_eS, C4SnO.spec BOY)] with E := [100, 101], mt := λ id => id == 5, iter := λ g => if g = Kn then some (BAZ a) else none, loops := λ id => if id = 8 then some [nr8 a] else if id = 13 then some [nr13 a] else none, cut := λ id => if id = 6 then some [nr6 a [], nr6 a [302]] else if id = 7 then some [nr7 a] else none }
def BNR (a : DkS) : Prop := CH Try.prog (AWB a) Yx (AH Yx) (C_nar.xs a) (AB (C_nar.L a)) (C_nar.val a) (C_nar.keep a) [] [2016]
abbrev RB:=DkS.l
abbrev Eo:=DkS.w
abbrev sU a b:=AE a b b
abbrev Jp a b:=Fx (λ i=>BU a b)
abbrev ZI a:=Jp IH a
abbrev PO a b:=And a (ZI b)
abbrev Fu a b c (d:Nat->Prop) e:=KS a b c (GN d) e
abbrev DR a:=AL (Eo a)
abbrev MH a:=AV (DR a)
abbrev NR a:=AS (DR a)
abbrev NM a:=AP (DR a)
abbrev bN a:=AT (DR a)
abbrev LF a:=AQ (DR a)
abbrev AFH a (b:Nat->Span):=Jc (RB a) b
abbrev PP a b:=AFH a (λ i=>qT a b i)
abbrev cR a b:=OH (Eo a) (RB b)
abbrev Sw a b:=II a (RB b)
abbrev Nu a b c d:=LI a (RB b) c d
abbrev Pk a b:=II (RB a) b
abbrev WI a b c d:=EB a b 50 c d
abbrev OF a:=LO a 1
abbrev Oz a b:=KI a (OF (BB b))
abbrev Iy a b:=Oz a (DR b)
abbrev XV a:=gapL (Eo a)
abbrev Cv a:=KA (XV a)
abbrev Dt a:=KC (XV a)
abbrev MT a:=KC (RB a)
abbrev Wk a b:=PT (XV a) b
abbrev Y3 a b:=Hc (IV a) b
abbrev AOI a b:=Y3 (DR a) b
abbrev RD a b:=Hc (AOI a 2) (BZ b)
abbrev Xv a b:=FY (RD a b)
abbrev D0 a b:=GU (RD a b)
abbrev Hx a b:=UU (D0 a b)
abbrev Xf a b:=RN (XV a) b
abbrev TF a:=KQ (DR a)
abbrev MU a:=GJ (Eo a)
abbrev OV a:=Jx (DR a)
abbrev Ie a b:=KZ a (Eo b)
abbrev UN a:=HE (DR a)
abbrev PA a:=CG (DR a)
abbrev OW a:=JS (DR a)
abbrev OU a:=BX (DR a)
abbrev Gv a:=EX (DR a)
abbrev sQ a b c d:=AF a b c a d
abbrev Vr a b:=bF a (RB b)
abbrev xU a b c d e f g h:=AK a b c d e f d g h
abbrev ME a:=PV (BZ a)
abbrev Zc a b c:=nrF a b (BV c)
abbrev Hm a b c:=AFH a (λ i=>nrF b c i)
abbrev fS a:=KA (RB a)
abbrev TJ a b c d e f:=EK a (AO b c d e) f
abbrev KO a b c d:=AF a b (AP c) (AS c) d
abbrev Ao a b c:=KO a (AT b) b c
abbrev VY a b:=HR (Eo a) b
abbrev Px a:=LQ (Eo a)
abbrev Od a b:=NA a (OF (BB (DR b)))
abbrev Xj a b (c:Nat->Prop):=Wu (MT a) b c
abbrev aI a b c d:=GI (CE a b) (CE c d)
abbrev Yo a b c d:=dL a (aI b c b d)
abbrev El a:=FY (DS a)
abbrev nO a b c d:=Yo a b (El c) d
abbrev Ho a b c d:=nO a (DR b) c d
abbrev Dd a:=BG (EX a)
abbrev Xk a:=Dd (DR a)
abbrev Yk a b:=Ba a (RB b)
abbrev cO a:=wr (AOI a 1)
abbrev Yl a:=AG (cO a)
abbrev SA a:=(@Eq Fn) (Fn.yield a) (Fn.yield a)
abbrev Dl a b c d:=RE a Gk b c d
abbrev Oc a:=FR a 40
abbrev UZ a b c:=AE a (CN b) c
abbrev PR a b c:=UZ a b (DM b c)
abbrev XI a b c:=PR (CD a b) c b
abbrev YT a b c:=XI a (BB b) c
abbrev yT a b c d:=AF a b c b d
abbrev Io a b c:=yT a AI b c
abbrev Za a:=NG (RB a)
abbrev Fv a:=PV (IV a)
abbrev LW a:=CL a 1073741824
attribute [go_sem] RB Eo sU Jp ZI PO Fu DR MH NR NM bN LF AFH PP cR Sw Nu Pk WI OF Oz Iy XV Cv Dt MT Wk Y3 AOI RD Xv D0 Hx Xf TF MU OV Ie UN PA OW OU Gv sQ Vr xU ME Zc Hm fS TJ KO Ao VY Px Od Xj aI Yo El nO Ho Dd Xk Yk cO Yl SA Dl Oc UZ PR XI YT yT Io Za Fv LW
theorem BRE (a : DkS) : (BNR a) = (JR (JG (RB a)) (QH (RB a)) (NB (Za a)) (LW (Za a)) (sU (HS (AO (LF a) (bN a) (NM a) (NZ (NR a) (MH a) (BO (DR a)) (BL (DR a)) (BE (DR a)) (BI (DR a)) (λ i=>Ie i a) (TD (PE (DR a)) (MU a) (HL (DR a)) (LF a) (DR a) (DR a) (MC (CQ (DR a)) (λ i=>DG i (DR a)) (DH (DR a)) (λ i=>DI i (DR a)) (Eo a) (λ i=>QG (DR a) i) (JK (DR a)))))) (λ i=>IG (HI (AE (SA i) (AR (cO a) (Fv (DR a))) (XR BQ (LF a) (DR a) (NM a) (NR a) (MH a) (OU a) (OW a) (TO (PA a) (λ j=>BK j (DR a)) (Eo a) (OV a) (MU a) (λ j=>JF (DR a) j) (JU (RB a) (Za a)) (Io (JQ (RB a) (IP (RB a))) (JU (RB a) (Za a)) FW))))) (ZI (TJ (HB 0 (cO a)) (YT (DS 0) (DR a) (BZ 0)) (Oc 0) (Il 0) (Fu (JO (Eo a) 0) (BC i) (Dl YW XL YE 16) (λ j=>IW (AF (SA i) (Yl a) (BD j 0) (LF a) (WT (DR a) (NM a) (NR a) (MH a) (OU a) (OW a) (PA a) (UN a) (CM (Px a) BT (OV a) (MU a) (TF a) (MT a) (λ k=>Yk k a) AI (Xj a (JD j) (λ k=>VK k j (VY a k) (Ho (Xk a) a 0 0) 200000000))))) (Od j a) 50 j 60) (AE (BC i) (Dl YW XL YE 16) (GN (λ j=>IW (AF (SA i) (Yl a) (BD j 0) (LF a) (WT (DR a) (NM a) (NR a) (MH a) (OU a) (OW a) (PA a) (UN a) (CM (Px a) BT (OV a) (MU a) (TF a) (MT a) (λ k=>Yk k a) AI (Xj a (JD j) (λ k=>VK k j (VY a k) (Ho (Xk a) a 0 0) (Ho (BJ (Gv a)) a 0 0)))))) (Od j a) 50 j 60)))) (HI (FX (LF a) (bN a) (NM a) (NR a) (MH a) (OU a) (OW a) (TO (PA a) (λ j=>BK j (DR a)) (Eo a) (OV a) (MU a) (λ j=>JF (DR a) j) (MT a) (Zq (fS a) AI (MT a) (Lj (XV a)))))))) (λ j=>BU (Od j a) (TJ (HB j (cO a)) (YT (DS j) (DR a) (BZ j)) (Oc j) (Il j) (Fu (JO (Eo a) j) (BC i) (Dl (Cb j j) TI (TX j) (Bq j)) (λ k=>WI (AF (SA i) (Yl a) (BD k j) (LF a) (WT (DR a) (NM a) (NR a) (MH a) (OU a) (OW a) (PA a) (UN a) (CM (Px a) BT (OV a) (MU a) (TF a) (MT a) (λ l=>Yk l a) AI (Xj a (PL k j) (λ l=>VK l k (VY a l) (JP l j (BG (VY a l)) (Ho (Xk a) a j j)) (JP l j (BJ (VY a l)) 200000000)))))) (Od k a) k j) (AE (BC i) (Dl (Cb j j) TI (TX j) (Bq j)) (GN (λ k=>WI (AF (SA i) (Yl a) (BD k j) (LF a) (WT (DR a) (NM a) (NR a) (MH a) (OU a) (OW a) (PA a) (UN a) (CM (Px a) BT (OV a) (MU a) (TF a) (MT a) (λ l=>Yk l a) AI (Xj a (PL k j) (λ l=>VK l k (VY a l) (JP l j (BG (VY a l)) (Ho (Xk a) a j j)) (JP l j (BJ (VY a l)) (Ho (BJ (Gv a)) a j j))))))) (Od k a) k j)))) (HI (Ao (LF a) (DR a) (AK (MH a) (OU a) (OW a) (PA a) (UN a) (Px a) BT (OV a) (AK (MU a) (TF a) (MT a) (fS a) AI (MT a) (JU (XV a) j) (LC j) (AD (λ k=>EY k (XV a) (VY a (BV k)))))))))))) (ZI (PO (HI (AO (LF a) (bN a) (NM a) (NZ (NR a) (MH a) (OU a) (OW a) (PA a) (UN a) (λ i=>Ie i a) (xU (OV a) (MU a) (TF a) (MT a) (fS a) AI (Dt a) (Cv a))))) (DP (λ i=>JR (Dt a) (Cv a) (Fs (XV a)) (XZ (BR i) (LF a) (Gv a) (NM a) (NZ (NR a) (MH a) (OU a) (OW a) (PA a) (UN a) (λ j=>Ie j a) (xU (OV a) (MU a) (TF a) (MT a) (AD (λ j=>Nu j a (nrF a i j) (GK (RB a) j))) AI (Dt a) (Cv a)))) (Iy i a)) (λ i=>BU (Iy i a) (Fu (Ff i (ED (XV a))) (MI i (XV a)) (IR (MI i (RB a)) (Vr (BV i) a) (MI i (RB a)) (Vr (BV i) a) (AG (DS i)) (AG (FS (BG (Zc a i i)) (Wk a i))) (Yz (AG (FS (BJ (Zc a i i)) (Xf a i))) (Sw (Hm a a i) a) (AF (AD (λ j=>EY j (Hm a a i) (nrF a i j))) AI (Pk a (Hm a a i)) (CN (DS i)) (DM (DS i) (ED (Hm a a i)))))) (λ j=>WI (AO (Dt a) (Cv a) (Fs (XV a)) (XZ (BD j i) (LF a) (Gv a) (NM a) (NZ (NR a) (MH a) (OU a) (OW a) (PA a) (UN a) (λ k=>Ie k a) (AK (OV a) (MU a) (TF a) (Pk a (Hm a a i)) (AD (λ k=>Nu k a (nrF a j k) (upd1 (Hm a a i) (DS i) (Cm (FS (BG (Zc a i i)) (Wk a i)) (FS (BJ (Zc a i i)) (Xf a i))) k))) AI (MT a) (Dt a) (Cv a))))) (Iy j a) j i) (DP (λ j=>And (XZ (AR (RD a j) (ME (ED (XV a)))) (LF a) (Gv a) (NM a) (NZ (NR a) (MH a) (OU a) (OW a) (PA a) (UN a) (λ k=>Ie k a) (xU (OV a) (MU a) (TF a) (MT a) (AD (λ k=>Nu k a (qT a j k) (nrF a i k))) AI (Dt a) (Cv a)))) (Iy j a)) (λ j=>GM (Iy j a) (As (RD a j)) (sQ (WB (D0 a j) (RB a)) (Vr (Hx a j) a) (WB (RD a j) (XV a)) (AF (Vr (Hx a j) a) (WB (RD a j) (XV a)) (AG (RD a j)) (AG (GI (BG (qT a j (Hx a j))) (Xf a (Xv a j)))) (Yz (AG (GI (BJ (qT a j (Hx a j))) (Wk a (Xv a j)))) (Sw (PP a j) a) (AF (AD (λ k=>EY k (PP a j) (qT a j k))) AI (Pk a (PP a j)) (CN (RD a j)) (DM (RD a j) (ED (PP a j))))))) (GN (λ k=>WI (XZ (AR (RD a k) (PV (RD a j))) (LF a) (Gv a) (NM a) (NZ (NR a) (MH a) (OU a) (OW a) (PA a) (UN a) (λ l=>Ie l a) (AK (OV a) (MU a) (TF a) (Pk a (PP a j)) (AD (λ l=>Nu l a (qT a k l) (upd1 (PP a j) (RD a j) (Cm (GI (BG (qT a j (Hx a j))) (Xf a (Xv a j))) (GI (BJ (qT a j (Hx a j))) (Wk a (Xv a j)))) l))) AI (MT a) (Dt a) (Cv a)))) (Iy k a) k j)) (AE (VW (QF (Sw (PP a j) a) (AF (AD (λ k=>EY k (PP a j) (qT a j k))) (Pk a (PP a j)) (AD (λ k=>Nu k a (qT a j k) (GK (PP a j) k))) (DT (ED (PP a j))) IH))) (Sw (cR a a) a) (DC (LC (ED (RB a))) (λ k=>EY k (cR a a) (qT a j (BV k))) (Hh (UY (cR a a)) (PP a j)) (LF a) (bN a) (NM a) (NR a) (MH a) (SG (DR a) (Eo a))))))))))))) := by kernel_rfl
theorem AUY {L : Nat} {f : Nat -> Span} {k : Int} {s : Span} {i : Nat} (hi : i < L) (hk : k.toNat < L) : upd1 (IK L f) k s i = bif decide (i = k.toNat) then bK (f k.toNat) s else f i := by
 unfold upd1; rw [FF _ _ _ hi, FF _ _ _ hk]
theorem AOA (a : DkS) {k i : Nat} (hk : k + 1 < a.l.length) (hi : i < a.l.length) : nrF a (k + 1) i = upd1 (IK a.l.length λ i => nrF a k i) ((k + 1 : Nat) : Int) (addS (nrF a k k) (HR a.w k)) i := by
 rw [AUY hi (by show k + 1 < _; exact hk)]
 show _ = bif decide (i = k + 1) then bK (nrF a k (k + 1)) _ else _
 by_cases h : i = k + 1
 ·subst h
  simp only [nrF, Nat.le_refl, decide_true, cond_true, show ¬ k + 1 <= k by omega, decide_false, cond_false]
  rfl
 ·have e : decide (i <= k + 1) = decide (i <= k) := by rw [decide_eq_decide]; omega
  simp only [nrF, h, e, decide_false, cond_false]
theorem APF (a : DkS) {j i : Nat} (hl : a.l.length = a.w.c.ms.length) (hj : j + 2 <= a.l.length) (hi : i < a.l.length) : qT a (j + 1) i = upd1 (IK a.l.length λ i => qT a j i) ((a.w.c.ms.length - 2 - j : Nat) : Int) (subS (qT a j (a.w.c.ms.length - 2 - j + 1)) (HR a.w (a.w.c.ms.length - 2 - j))) i := by
 rw [AUY hi (by show a.w.c.ms.length - 2 - j < _; omega)]
 show _ = bif decide (i = a.w.c.ms.length - 2 - j) then bK (qT a j (a.w.c.ms.length - 2 - j)) _ else _
 by_cases h : i = a.w.c.ms.length - 2 - j
 ·have e1 : decide (a.w.c.ms.length - 1 - (j + 1) <= i) = true := by rw [decide_eq_true_eq]; omega
  have e2 : decide (a.w.c.ms.length - 1 - j <= a.w.c.ms.length - 2 - j) = false := by rw [decide_eq_false_iff_not]; omega
  have e3 : decide (a.w.c.ms.length - 1 - j <= a.w.c.ms.length - 2 - j + 1) = true := by rw [decide_eq_true_eq]; omega
  have e4 : a.w.c.ms.length - 1 - i = j + 1 := by omega
  have e5 : a.w.c.ms.length - 1 - (a.w.c.ms.length - 2 - j + 1) = j := by omega
  have e6 : a.w.c.ms.length - 1 - (j + 1) = a.w.c.ms.length - 2 - j := by omega
  have e7 : decide (i = a.w.c.ms.length - 2 - j) = true := by rw [decide_eq_true_eq]; exact h
  have e8 : decide (a.w.c.ms.length - 2 - j <= i) = true := by rw [decide_eq_true_eq]; omega
  rw [e7]
  simp only [qT, e2, e3, e4, e5, cond_true, cond_false, bkM, e6, e8]
 ·have e1 : decide (a.w.c.ms.length - 1 - (j + 1) <= i) = decide (a.w.c.ms.length - 1 - j <= i) := by rw [decide_eq_decide]; omega
  simp only [qT, h, e1, decide_false, cond_false]
theorem BWD (a : DkS) (h : a.l.length = a.w.c.ms.length /\ 1 <= a.w.c.ms.length /\ a.w.c.ms.length <= 40) : BNR a := by
 obtain ⟨hl, h1, h2⟩ := h
 have e1 : wr ((a.w.c.ms.length : Int) - 1) = ((a.w.c.ms.length - 1 : Nat) : Int) := by unfold wr; rw [Bc (by omega) (by omega)]; omega
 have e2 : IntKind.i64.wrap ((a.w.c.ms.length : Int) - 1) = ((a.w.c.ms.length - 1 : Nat) : Int) := e1
 have gl : (gapL a.w).length = a.w.c.ms.length - 1 := rng_length _ _
 have gg : ∀ {j : Nat}, j < a.w.c.ms.length - 1 -> gD (gapL a.w) j = HR a.w j := λ hj => FF _ _ _ hj
 have lo : ∀ k, (HR a.w k).lo = IntKind.i64.wrap (a.w.c.p.lo * IntKind.i64.wrap ((gD a.w.c.ms (k + 1)).pl - (gD a.w.c.ms k).pl)) := λ _ => rfl
 have hi1 : ∀ k, a.w.sp k = true -> (HR a.w k).hi = 200000000 := λ k h => by unfold HR; rw [h]; rfl
 have hi0 : ∀ k, a.w.sp k = false -> (HR a.w k).hi = IntKind.i64.wrap (a.w.c.p.hi * IntKind.i64.wrap ((gD a.w.c.ms (k + 1)).pl - (gD a.w.c.ms k).pl)) := λ k h => by unfold HR; rw [h]; rfl
 have ws : ∀ {k : Nat}, k < 40 -> IntKind.i64.wrap ((k : Int) + 1) = ((k + 1 : Nat) : Int) := λ h => HY (by omega)
 rw [BRE]<;> delta KH rW ZR BG BJ EC MM NO Hc ES ET BW ED AD BU CL AR GK BZ SC DJ EK JH HO KB NL LO EJ GW EX HP HN HJ GT GB HC DU GG FE JW GN IH Ef uS JL FY QC NY EU MP KI YM AL JO Ri Cm Rm Fx En jV RB Eo AE CR FA BB GA AF AY DR AU RA AG EM sU EZ BC FD Nc QF sQ jW Zq yT AX FC BM CJ AK AN DD BH BY BP CX BN CY BS CE HQ QX FU AV DA AQ Jc EV DW AZ XZ xU DQ CP FT AS OT ZW FS DM AP ID AT BV EG CN BX NE GI CM HD CG GP GU OK DS DF FH HV AO AI DC Cn CK DT BT UR EL UU FV IP CD NF EP HW EO JY IV DB FN FM KZ UV XV KC HF VU PV TL JB DZ ML Cs BD PH EA FQ PZ FR NG IW Y3 NH GJ LQ BE LI DX FO FZ KL NC JS GH SV JU BQ IC LM LB IM YN OI Ct AOI PI SY Bi dL El HS HB BO EB DH CQ BK JF GY CS EE ME GM AFH GF II TV BR BI KQ BL HE OF EY RZ DG Ba MC UL FW PN FX MT NB DP Jx KA PJ DI SE TD VI RD YU QQ LF MG PT UZ MU PM HI MH QK RN VY JP Es PE Lw PR KO LC UM QG UG TN JQ HL VL NR KS WA Jp SN WT NA TK TG PP XM NM LW SU JD IG RE Oz JK OV OW MI SA PL Dd ZI JR JG SG PA IR aI ZM UY OU UN Gk As Sv PO Cv TF XI Yo Ao Dt Av TO WB D0 Hd Lj TI XR nO Gv cO TX QH Iy Ie Hx Yz XL YE bF Wu Fs Px Qb VW NZ Ho VK YW Od Pk Hm WI TJ YT Cb Sw Xk Fv Za Yl Bq Nu Wk Ff Xv Vr Xf bN Dl Il Yk Fu Xj Zc Hh cR fS Oc Io; simp only [CC, eq_self, implies_true, forall_const]; simp only [e1, e2, gl, hl]
 refine ⟨by omega, ⟨⟨default, trivial⟩, ⟨λ h0 => ?_, λ h0 => ⟨default, by omega⟩⟩, λ k hk => ⟨λ hlt => ?_, λ hge => ⟨default, by omega, Nat.le_refl _, λ j hj => by rw [gg hj]; exact ⟨rfl, rfl⟩⟩⟩⟩, ⟨default, trivial⟩, ⟨0, ⟨rfl, λ i hi => ?_⟩, Nat.zero_le _⟩, λ k hk => ⟨λ hlt => ?_, λ hge => ⟨⟨0, ⟨?_, λ i hi => ?_⟩, Nat.zero_le _⟩, λ j hj => ⟨λ hlt => ?_, λ hlt => ?_⟩⟩⟩⟩
 ·simp only [ws (show (0 : Nat) < 40 by omega), Int.toNat_natCast]
  refine ⟨by omega, by omega, by omega, λ h => ⟨by simp, 1, ⟨rfl, rfl, rfl, λ i hi => ?_⟩, by omega, by omega⟩, λ h => ⟨by simp, 1, ⟨rfl, rfl, rfl, λ i hi => ?_⟩, by omega, by omega⟩⟩
  ·obtain rfl : i = 0 := by omega
   exact ⟨lo 0, hi1 0 h⟩
  ·obtain rfl : i = 0 := by omega
   exact ⟨lo 0, hi0 0 h⟩
 ·simp only [ws (show k < 40 by omega), Int.toNat_natCast]
  refine ⟨by omega, by omega, by omega, λ h => ⟨⟨by omega, (λ h => by cases h), by omega, by omega⟩, k + 1, ⟨rfl, rfl, rfl, λ i hi => ?_⟩, by omega, by omega⟩, λ h => ⟨⟨by omega, (λ h => by cases h), by omega, by omega⟩, k + 1, ⟨rfl, rfl, rfl, λ i hi => ?_⟩, by omega, by omega⟩⟩
  ·by_cases q : i < k
   ·simp only [q, decide_true, cond_true, and_self]
   ·obtain rfl : i = k := by omega
    simp only [q, decide_false, cond_false]
    exact ⟨lo i, hi1 i h⟩
  ·by_cases q : i < k
   ·simp only [q, decide_true, cond_true, and_self]
   ·obtain rfl : i = k := by omega
    simp only [q, decide_false, cond_false]
    exact ⟨lo i, hi0 i h⟩
 ·by_cases q : i = 0
  ·subst q; exact ⟨rfl, rfl⟩
  ·have : ¬ i <= 0 := by omega
   simp only [nrF, this, decide_false, cond_false, and_self]
 ·simp only [ws (show k < 40 by omega)]
  refine ⟨by omega, ⟨by omega, by omega, by omega, by omega, λ i hi => by rw [FF _ _ _ hi]; exact ⟨rfl, rfl⟩, by omega, by omega⟩, k + 1, ⟨rfl, λ i hi => ?_⟩, by omega, by omega⟩
  have e := AOA a (k := k) (i := i) (by omega) (by omega)
  rw [gg (by omega), e, hl]; exact ⟨rfl, rfl⟩
 ·rw [Bc (by omega) (by omega)]; omega
 ·obtain rfl : k = a.w.c.ms.length - 1 := by omega
  have q1 : decide (i <= a.w.c.ms.length - 1) = true := by rw [decide_eq_true_eq]; omega
  unfold qT nrF; rw [q1]
  by_cases q : a.w.c.ms.length - 1 - 0 <= i
  ·have q2 : a.w.c.ms.length - 1 - i = 0 := by omega
   have q3 : i = a.w.c.ms.length - 1 := by omega
   simp only [q, decide_true, cond_true, q2, bkM]; rw [<- q3]; exact ⟨rfl, rfl⟩
  ·simp only [q, decide_false, cond_false, cond_true, and_self]
 ·have g0 : (a.w.c.ms.length : Int) - 2 - j = ((a.w.c.ms.length - 2 - j : Nat) : Int) := by omega
  have g1 : IntKind.i64.wrap (((a.w.c.ms.length - 2 - j : Nat) : Int) + 1) = ((a.w.c.ms.length - 2 - j + 1 : Nat) : Int) := ws (by omega)
  simp only [g0, g1, Int.toNat_natCast]
  refine ⟨⟨by omega, by omega, by omega, by omega, by omega, by omega, λ i hi => by rw [FF _ _ _ hi]; exact ⟨rfl, rfl⟩, by omega, by omega⟩, j + 1, ⟨?_, λ i hi => ?_⟩, by omega, by omega⟩
  ·rw [Bc (by omega) (by omega)]; omega
  ·have e := APF a (j := j) (i := i) hl (by omega) (by omega)
   rw [gg (by omega), e, hl]; exact ⟨rfl, rfl⟩
 ·have q : j = a.w.c.ms.length - 1 := by omega
  have eq1 : ∀ i, i < a.w.c.ms.length -> gD (OH a.w a.l) i = qT a j i := λ i hi => by
   unfold OH; rw [FF _ _ _ (by omega), hl]
   have q2 : decide (a.w.c.ms.length - 1 - j <= i) = true := by rw [decide_eq_true_eq]; omega
   unfold qT; rw [q2]; rfl
  have nl : (OH a.w a.l).length = a.w.c.ms.length := by unfold OH; rw [rng_length, hl]
  refine ⟨⟨λ i hi => by rw [FF _ _ _ hi]; exact ⟨rfl, rfl⟩, λ i hi => by rw [FF _ _ _ hi]; exact ⟨rfl, rfl⟩, by omega⟩, nl, Nat.le_refl _, λ i hi => by rw [eq1 i (by omega)]; exact ⟨rfl, rfl⟩, ?_⟩
  congr 1
  exact AQS (by rw [nl, rng_length]) λ i hi => by rw [eq1 i (by omega), FF _ _ _ (by omega)]
theorem AEP : AJ Try.prog YX (C_nar.spec dDkS) := XP C_nar AWB [] [2016] W8 (λ _ => by kernel_rfl) (λ _ => AA AQY (AA zH (AA AXD (AA BFU AC)))) (λ a h => BWD a h) (λ a => AOJ Kn (BAZ a) rfl rfl AC lP (by kernel_rfl) (by kernel_rfl)) _
end Go.Bal
