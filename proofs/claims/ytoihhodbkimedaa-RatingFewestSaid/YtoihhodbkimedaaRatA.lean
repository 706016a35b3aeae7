/- Package rating: numbers, lines, fractions. -/
import Derived.Test.YtoihhodbkimedaaRat0
set_option linter.unusedVariables false
set_option linter.unusedSimpArgs false
namespace Go.Bal
open Go Go.Sym Go.Proofs
def wr (n : Int) : Int := IntKind.i64.wrap n
def Cb (a b c : Int) : Bool := decide (b <= a) && decide (a <= c)
def riG (g : Gau) : Bool := Cb g.st 0 2000 && Cb g.lo 0 g.hi && Cb g.hi 0 200000
def riP (p : Pt) : Bool := Cb p.st 0 2000 && Cb p.fl 0 200000
def jT (x : Ln) : Bool := riP ⟨x.a0, x.a1⟩ && riP ⟨x.b0, x.b1⟩ && decide (x.a0 < x.b0) && decide (x.a1 <= x.b1)
def V_in (x : I3) : Prop := CH Try.prog (ann 15 []) F_in (AI F_in) (xI3 x) (AD []) (.bool (Cb x.a x.b x.c)) [] [] []
abbrev KY:=@Eq Bool
abbrev hd5:=@cond Bool
abbrev hd6:=λ (x0 x1 : Int) => decide (x0 >= x1)
abbrev hd7:=λ (x0 x1 : Int) => decide (x0 <= x1)
abbrev Dc:=false
abbrev HG a b:=hd5 a b Dc
abbrev Ov a b c:=HG a (hd7 b c)
attribute [go_sem] KY hd5 hd6 hd7 Dc HG Ov
theorem CGR (x : I3) : (V_in x) = (KY (Cb (I3.a x) (I3.b x) (I3.c x)) (Ov (hd6 (I3.a x) (I3.b x)) (I3.a x) (I3.c x))) := by kernel_rfl
def s_in := pD dI3 λ x => .bool (Cb x.a x.b x.c)
theorem qF : AL Try.prog n_in s_in := Cq xI3 hI3 λ x _ => Lg (A := ann 15 []) (ren := []) (fz := []) CGW (by kernel_rfl) AF (by
 show V_in x; rw [CGR]<;> delta KY hd5 hd6 hd7 Dc HG Ov; unfold Cb; by_cases h : x.b <= x.a <;> simp [h])
def CBN (g : Gau) : Prop := CH Try.prog (ann 21 [(n_in, s_in)]) BQL (AI BQL) (xG1 g) (AD []) (.bool (riG g)) [] [] []
abbrev GH:=Gau.st
abbrev HK:=Gau.lo
abbrev FK:=Gau.hi
abbrev NE a b:=Cb a 0 b
attribute [go_sem] GH HK FK NE
theorem CCB (g : Gau) : (CBN g) = (KY (riG g) (HG (HG (NE (GH g) 2000) (NE (HK g) (FK g))) (NE (FK g) 200000))) := by kernel_rfl
def BZP := pD dG1 λ g => .bool (riG g)
theorem CES : AL Try.prog BGO BZP := Cq xG1 hG1 λ g _ => Lg (A := ann 21 [(n_in, s_in)]) (ren := []) (fz := []) CEW (by kernel_rfl) (AB qF AF) (by
 show CBN g; rw [CCB]<;> delta KY hd5 Dc GH HK FK HG NE; unfold riG; cases Cb g.st 0 2000 <;> cases Cb g.lo 0 g.hi <;> simp)
def CBC (g : Pt) : Prop := CH Try.prog (ann 11 [(n_in, s_in)]) BSS (AI BSS) (xP1 g) (AD []) (.bool (riP g)) [] [] []
abbrev pX:=Pt.st
abbrev Uz:=Pt.fl
attribute [go_sem] pX Uz
theorem CDH (g : Pt) : (CBC g) = (KY (riP g) (HG (NE (pX g) 2000) (NE (Uz g) 200000))) := by kernel_rfl
def BTZ := pD dP1 λ g => .bool (riP g)
theorem CEE : AL Try.prog BKD BTZ := Cq xP1 hP1 λ g _ => Lg (A := ann 11 [(n_in, s_in)]) (ren := []) (fz := []) CBZ (by kernel_rfl) (AB qF AF) (by
 show CBC g; rw [CDH]<;> delta KY hd5 Dc pX Uz HG NE; unfold riP; cases Cb g.st 0 2000 <;> simp)
def BZV (g : Ln) : Prop := CH Try.prog (ann 29 [(BKD, BTZ)]) BRT (AI BRT) (xL1 g) (AD []) (.bool (jT g)) [] [] []
abbrev KZ:=Ln.a0
abbrev KR:=Ln.a1
abbrev LU:=Ln.b0
abbrev MC:=Ln.b1
abbrev KN:=λ (x0 x1 : Int) => decide (x0 < x1)
abbrev Ap a b c:=HG a (KN b c)
attribute [go_sem] KZ KR LU MC KN Ap
theorem CDG (g : Ln) : (BZV g) = (KY (jT g) (Ov (Ap (HG (riP (Pt.mk (KZ g) (KR g))) (riP (Pt.mk (LU g) (MC g)))) (KZ g) (LU g)) (KR g) (MC g))) := by kernel_rfl
def BHB := pD dL1 λ g => .bool (jT g)
theorem AOA : AL Try.prog AZF BHB := Cq xL1 hL1 λ g _ => Lg (A := ann 29 [(BKD, BTZ)]) (ren := []) (fz := []) CCH (by kernel_rfl) (AB CEE AF) (by
 show BZV g; rw [CDG]<;> delta KY hd5 hd7 Dc KZ KR LU MC KN HG Ov Ap; unfold jT; cases riP ⟨g.a0, g.a1⟩ <;> cases riP ⟨g.b0, g.b1⟩ <;> by_cases h : g.a0 < g.b0 <;> simp [h])
def BUC (x : Int) : Prop := CH Try.prog (ann 6 []) BGK (AI BGK) (xI1 x) (AD []) (.bool false) [] [] []
abbrev Tu:=@bne Int (@instBEqOfDecidableEq Int Int.instDecidableEq)
abbrev Z4 a:=Tu a a
attribute [go_sem] Tu Z4
theorem BVH (x : Int) : (BUC x) = (KY Dc (Z4 x)) := by kernel_rfl
def R0 := pD dI1 λ _ => .bool false
theorem BJM : AL Try.prog ADB R0 := Cq xI1 hI1 λ g _ => Lg (A := ann 6 []) (ren := []) (fz := []) BUT (by kernel_rfl) AF (by
 show BUC g; rw [BVH]<;> delta KY Dc Tu Z4; simp)
def BPI (x : Int) : Prop := CH Try.prog (ann 6 []) BDD (AI BDD) (xI1 x) (AD []) (.bool false) [] [] []
theorem BVY (x : Int) : (BPI x) = (KY Dc (Z4 x)) := by kernel_rfl
theorem BVF : AL Try.prog BDL R0 := Cq xI1 hI1 λ g _ => Lg (A := ann 6 []) (ren := []) (fz := []) BXX (by kernel_rfl) AF (by
 show BPI g; rw [BVY]<;> delta KY Dc Tu Z4; simp)
def BIR (x : I2) : Prop := CH Try.prog (ann 17 [(ADB, R0)]) AXH (AI AXH) (xI2 x) (AD []) (.bool (decide (x.a < x.b))) [] [] []
abbrev Pb:=I2.a
abbrev bM:=I2.b
abbrev PN:=true
abbrev RC a b:=hd5 a PN b
attribute [go_sem] Pb bM PN RC
theorem BSJ (x : I2) : (BIR x) = (KY (KN (Pb x) (bM x)) (RC (HG Dc (not Dc)) (KN (Pb x) (bM x)))) := by kernel_rfl
def BHQ := pD dI2 λ x => .bool (decide (x.a < x.b))
theorem BSR : AL Try.prog AWG BHQ := Cq xI2 hI2 λ g _ => Lg (A := ann 17 [(ADB, R0)]) (ren := []) (fz := []) BST (by kernel_rfl) (AB BJM AF) (by
 show BIR g; rw [BSJ]<;> delta KY hd5 Dc KN Pb bM PN HG RC; try simp)
def Lh (a b : Int) : Int := bif decide (a < b) then -1 else bif decide (a > b) then 1 else 0
def BSK (x : I2) : Prop := CH Try.prog (ann 20 [(ADB, R0)]) BDF (AI BDF) (xI2 x) (AD []) (.int (Lh x.a x.b)) [] [] []
abbrev FA:=@cond Prop
abbrev AO:=@Eq Int
abbrev Jd:=Lh
abbrev ZR:=λ (x0 x1 : Int) => decide (x0 > x1)
abbrev IF a b c d:=FA (KN a b) c d
abbrev CD a:=AO a 0
attribute [go_sem] FA AO Jd ZR IF CD
theorem BUX (x : I2) : (BSK x) = (IF (Pb x) (bM x) (AO (Jd (Pb x) (bM x)) (-1)) (FA (ZR (Pb x) (bM x)) (AO (Jd (Pb x) (bM x)) 1) (CD (Jd (Pb x) (bM x))))) := by kernel_rfl
def G9 := pD dI2 λ x => .int (Lh x.a x.b)
theorem AKI : AL Try.prog qL G9 := Cq xI2 hI2 λ g _ => Lg (A := ann 20 [(ADB, R0)]) (ren := []) (fz := []) BUU (by kernel_rfl) (AB BJM AF) (by
 show BSK g; rw [BUX]<;> delta KN Pb bM FA AO Jd ZR CD IF; unfold Lh; by_cases h : g.a < g.b <;> by_cases h2 : g.b < g.a <;> simp [h, h2])
structure IL where
 a : Int
 l : List Int
def grM (x : IL) : Int := x.l.foldl sK x.a
structure NI where
 k : Nat
 m : Int
 deriving Inhabited
def C_gr : Ctr := { α := IL, xs := λ x => [.int x.a, .d (DC x.l)], L := λ _ => [], val := λ x => .int (grM x), keep := λ _ => [], pre := λ x => [decide (x.l.length < 4611686018427387904) = true] }
def d_gr : List AVal -> Heap -> Option (IL × List (Nat × Nat) × List Nat)
 | [.d a, y], H => match AIY y H with
  | some (l, f) => some (⟨JD a, l⟩, [], f)
  | none => none
 | _, _ => none
def A_gr (x : IL) : Ann := { ann 18 [] with loops := λ id => if id = 2 then some [{ α := NI, dflt := default, T := λ s => ⟨[(0, .int s.m), (7, .d (DC x.l)), (8, .int x.l.length), (9, .int s.k)], []⟩, inv := λ s => s.k <= x.l.length /\ s.m = (x.l.take s.k).foldl sK x.a, meas := λ s => x.l.length - s.k }] else none }
def V_gr (x : IL) : Prop := CH Try.prog (A_gr x) A3 (AI A3) (C_gr.xs x) (AD []) (C_gr.val x) [] [] []
abbrev hd33:=@Exists NI
abbrev wT:=NI.m
abbrev AT:=@Eq Nat
abbrev CX:=@List.length Int
abbrev oV:=IL.l
abbrev AG:=λ (f : Nat -> Prop) => ∀ (x : Nat), f x
abbrev CG:=λ (p q : Prop) => p -> q
abbrev CM:=@LT.lt Nat instLTNat
abbrev EM:=@gD Int Int.instInhabited
abbrev BK:=@Nat.cast Int instNatCastInt
abbrev El:=NI.k
abbrev DB:=@LE.le Nat instLENat
abbrev hd46:=@List.foldl Int Int
abbrev hd48:=@List.take Int
abbrev hd49:=λ (f : NI -> Prop) => ∀ (x : NI), f x
abbrev DW:=@LE.le Int Int.instLEInt
abbrev DT:=@LT.lt Int Int.instLTInt
abbrev QP:=IntKind.wrap
abbrev PD:=IntKind.i64
abbrev RO:=@HAdd.hAdd Int Int Int (@instHAdd Int Int.instAdd)
abbrev FM:=@HSub.hSub Nat Nat Nat (@instHSub Nat instSubNat)
abbrev EZ a b c d e:=CG a (IF b c d e)
abbrev DH a b c d e:=EZ a (BK b) c d e
abbrev SC a b c d e f:=DH a b c (And d e) f
abbrev AE a b c:=And a (And b c)
abbrev CJ a b c d:=AE a b (CM c d)
abbrev VL a b:=FM (CX a) b
abbrev EB a b c:=And a (AO b c)
abbrev EL a b:=DB a (CX b)
abbrev AJ a b c d e:=AE a b (AE c d e)
abbrev ED a b:=AO (BK a) b
abbrev DR a:=QP PD a
abbrev DK a b:=DR (RO a b)
abbrev DP a:=DK a 1
abbrev JE a b:=ED a (DP b)
abbrev BJ a b:=JE a (BK b)
abbrev AK a:=AO a a
abbrev FP a:=BK (CX a)
abbrev OY a:=AK (FP a)
abbrev AP a b c:=CG (CM a b) c
abbrev CZ a b c:=AP a (CX b) c
abbrev MX a b:=AK (EM a b)
abbrev Ma a b c d:=CZ a b (MX c d)
abbrev Ir a b:=Ma a b b a
abbrev LL a:=AG (λ i=>Ir i a)
abbrev BO a:=AT a a
abbrev GN a:=BO (CX a)
abbrev CA a:=DW 0 a
abbrev IG a b:=And (CA a) b
abbrev JM a b:=IG a (DT a b)
abbrev GA a b:=JM (BK a) b
abbrev JB a b c d:=AE a b (AO c d)
abbrev CN a:=ED a 0
attribute [go_sem] hd33 wT AT CX oV AG CG CM EM BK El DB hd46 hd48 hd49 DW DT QP PD RO FM EZ DH SC AE CJ VL EB EL AJ ED DR DK DP JE BJ AK FP OY AP CZ MX Ma Ir LL BO GN CA IG JM GA JB CN
theorem CFX (x : IL) : (V_gr x) = (And (hd33 (λ i=>JB (AJ (AO (wT i) (IL.a x)) (GN (oV x)) (LL (oV x)) (OY (oV x)) (CN (El i))) (EL (El i) (oV x)) (wT i) (hd46 sK (IL.a x) (hd48 (El i) (oV x))))) (hd49 (λ i=>SC (EB (EL (El i) (oV x)) (wT i) (hd46 sK (IL.a x) (hd48 (El i) (oV x)))) (El i) (FP (oV x)) (GA (El i) (FP (oV x))) (hd33 (λ j=>CJ (AJ (AO (wT j) (sK (wT i) (EM (oV x) (El i)))) (GN (oV x)) (LL (oV x)) (OY (oV x)) (BJ (El j) (El i))) (EB (EL (El j) (oV x)) (wT j) (hd46 sK (IL.a x) (hd48 (El j) (oV x)))) (VL (oV x) (El j)) (VL (oV x) (El i)))) (AO (grM x) (wT i))))) := by kernel_rfl
theorem SQ {α : Type} [Inhabited α] {l : List α} {k : Nat} (h : k < l.length) : l.take (k + 1) = l.take k ++ [gD l k] := by
 rw [List.take_add_one, List.getElem?_eq_getElem h]; simp [gD, List.getD_eq_getElem?_getD, h]
theorem p_gr (x : IL) (h : x.l.length < 4611686018427387904) : V_gr x := by
 rw [CFX]<;> delta KN FA AO hd33 wT AT CX oV AG CG CM EM BK El DB hd46 hd48 hd49 DW DT QP PD RO FM AE AJ AP DR AK BO DK CZ CA DP ED IG FP MX Ma CJ GN JM Ir JE IF VL LL EZ BJ EB DH EL CN GA OY JB SC; try simp only [CC, eq_self, implies_true, forall_const]
 refine ⟨⟨⟨0, x.a⟩, ⟨rfl, rfl⟩, Nat.zero_le _, rfl⟩, λ s hs => ⟨λ hlt => ⟨by omega, ⟨s.k + 1, sK s.m (gD x.l s.k)⟩, ⟨rfl, (EQ (by omega)).symm⟩, ⟨⟨by show s.k + 1 <= _; omega, ?_⟩, ?_⟩⟩, λ hge => ?_⟩⟩
 ·show sK s.m (gD x.l s.k) = _
  rw [SQ (by omega), List.foldl_append, hs.2]; rfl
 ·show x.l.length - (s.k + 1) < _; omega
 ·rw [hs.2]; unfold grM; rw [List.take_of_length_le (by omega)]
theorem CGM : AL Try.prog Q3 (C_gr.spec d_gr) := Ih C_gr A_gr [] [] BBC (λ _ => by kernel_rfl) (λ _ => AF) (λ x h => p_gr x (of_decide_eq_true h)) (λ _ => Jf rfl rfl) _
def cS (n d : Int) : Rt := ⟨n.tdiv (Nat.gcd n.natAbs d.natAbs : Nat), d.tdiv (Nat.gcd n.natAbs d.natAbs : Nat)⟩
structure NN where
 a : Nat
 b : Nat
 deriving Inhabited
def BGR (x : I2) : Ann := { ann 26 [(Q3, C_gr.spec d_gr)] with loops := λ id => if id = 2 then some [{ α := NN, dflt := default, T := λ s => ⟨[(0, .int x.a), (1, .int x.b), (4, .bptr 201 0), (5, .int s.a), (6, .int s.b)], [(201, .live (.box [.int 0, .int 0]))]⟩, inv := λ s => Nat.gcd s.a s.b = Nat.gcd x.a.natAbs x.b.natAbs /\ s.a <= 2305843009213693952 /\ s.b <= 2305843009213693952, meas := λ s => s.b, first := [(201, 1000)] }] else none }
def BHT (x : I2) : Prop := CH Try.prog (BGR x) AUV (AI AUV) (xI2 x) (AD []) (.d (eRt (cS x.a x.b))) [] [] []
abbrev PQ:=@OC Int
abbrev Ah:=@HSub.hSub Int Int Int (@instHSub Int Int.instSub)
abbrev R1:=NN.a
abbrev wU:=NN.b
abbrev YC:=Int.ofNat
abbrev hd64:=Nat.gcd
abbrev wW:=Int.natAbs
abbrev WQ:=False
abbrev zG:=Int.tmod
abbrev SL:=Rt.n
abbrev jR:=Int.tdiv
abbrev RN:=Rt.d
abbrev Lc a b c d:=CG a (FA b c d)
abbrev Qa a:=CG a WQ
abbrev Bm a:=(@Ne Int) a 0
abbrev MT a b:=And (AK a) b
abbrev AJC a b c d:=AJ a b c d d
abbrev UQ a:=AK (YC a)
abbrev BA:=UQ 0
abbrev EA a b:=ED a (BK b)
abbrev KO a:=Tu a 0
abbrev AH a b c d:=And a (AE b c d)
abbrev TA a b:=DR (Ah a b)
abbrev JQ a:=KY a a
abbrev UX:=JQ PN
abbrev FT a b c:=AO (EM a b) c
abbrev Yu a b c d e:=CZ a b (FT c d e)
abbrev MF a b c:=Yu a b b a c
abbrev Df:=DB 1 1
abbrev BB a b:=AT (CX a) b
abbrev Ak a:=BB a 1
attribute [go_sem] PQ Ah R1 wU YC hd64 wW WQ zG SL jR RN Lc Qa Bm MT AJC UQ BA EA KO AH TA JQ UX FT Yu MF Df BB Ak
theorem BQP (x : I2) : (BHT x) = (AE (AJ (AK (Pb x)) (Ak (PQ 1 (λ i=>TA 0 (Pb x)))) Df (AG (λ i=>MF i (PQ 1 (λ j=>TA 0 (Pb x))) (TA 0 (Pb x)))) UX) ((@Exists NN) (λ i=>AH (MT (Pb x) (AJC (AK (bM x)) (ED (R1 i) (grM (IL.mk (Pb x) (PQ 1 (λ j=>TA 0 (Pb x)))))) (ED (wU i) (bM x)) BA)) (AT (hd64 (R1 i) (wU i)) (hd64 (wW (Pb x)) (wW (bM x)))) (DB (R1 i) 2305843009213693952) (DB (wU i) 2305843009213693952))) ((λ (f : NN -> Prop) => ∀ (x : NN), f x) (λ i=>Lc (AE (AT (hd64 (R1 i) (wU i)) (hd64 (wW (Pb x)) (wW (bM x)))) (DB (R1 i) 2305843009213693952) (DB (wU i) 2305843009213693952)) (KO (BK (wU i))) (And (Qa (CN (wU i))) ((@Exists NN) (λ j=>CJ (MT (Pb x) (AJC (AK (bM x)) (EA (R1 j) (wU i)) (ED (wU j) (zG (BK (R1 i)) (BK (wU i)))) BA)) (AE (AT (hd64 (R1 j) (wU j)) (hd64 (wW (Pb x)) (wW (bM x)))) (DB (R1 j) 2305843009213693952) (DB (wU j) 2305843009213693952)) (wU j) (wU i)))) (JB (And (Bm (BK (R1 i))) (Qa (CN (R1 i)))) (AO (SL (cS (Pb x) (bM x))) (DR (jR (Pb x) (BK (R1 i))))) (RN (cS (Pb x) (bM x))) (DR (jR (bM x) (BK (R1 i)))))))) := by kernel_rfl
def AWL := pD dI2 (λ x => .d (eRt (cS x.a x.b))) (λ x => [0 < x.b /\ x.b <= 2305843009213693952 /\ -2305843009213693952 <= x.a /\ x.a <= 2305843009213693952])
theorem BXQ {n : Int} (h1 : -2305843009213693952 <= n) (h2 : n <= 2305843009213693952) : grM ⟨n, OC 1 λ _ => IntKind.i64.wrap (-n)⟩ = n.natAbs := by
 rw [LS (by omega) (by omega)]
 show sK n (-n) = _
 unfold sK; split <;> omega
theorem BSH : AL Try.prog AKQ AWL := Cq xI2 hI2 λ x h => Lg (A := BGR x) (ren := []) (fz := []) BNA (by kernel_rfl) (AB CGM AF) (by
 show BHT x; rw [BQP]<;> delta KY Tu Pb bM PN FA AO AT CX AG CG CM EM BK DB QP PD PQ Ah R1 wU YC hd64 wW WQ zG SL jR RN AE AJ AP DR AK JQ AJC AH TA CZ FT BB ED CJ EA UQ BA Df CN KO UX MT Yu MF Lc JB Qa Bm Ak; try simp only [CC, eq_self, implies_true, forall_const]
 obtain ⟨h1, h2, h3, h4⟩ : 0 < x.b /\ x.b <= 2305843009213693952 /\ -2305843009213693952 <= x.a /\ x.a <= 2305843009213693952 := h
 refine ⟨⟨by omega, λ j hj => Rp _ _ _ hj⟩, ⟨⟨x.a.natAbs, x.b.natAbs⟩, ⟨(BXQ h3 h4).symm, by show (x.b.natAbs : Int) = _; omega⟩, rfl, by show x.a.natAbs <= _; omega, by show x.b.natAbs <= _; omega⟩, λ s hs => ⟨λ hb => ?_, λ hb => ?_⟩⟩
 ·have hb : s.b ≠ 0 := by simpa using hb
  refine ⟨by omega, ⟨s.b, s.a % s.b⟩, ⟨rfl, ?_⟩, ⟨?_, hs.2.2, ?_⟩, Nat.mod_lt _ (by omega)⟩
  ·exact (Int.ofNat_tmod s.a s.b)
  ·show Nat.gcd s.b (s.a % s.b) = _
   rw [<- hs.1, Nat.gcd_comm s.b, <- Nat.gcd_rec, Nat.gcd_comm]
  ·exact Nat.le_trans (Nat.le_of_lt (Nat.mod_lt _ (by omega))) hs.2.2
 ·have hb : s.b = 0 := by simpa using hb
  have hg : s.a = Nat.gcd x.a.natAbs x.b.natAbs := by rw [<- hs.1, hb, Nat.gcd_zero_right]
  have hp : 0 < Nat.gcd x.a.natAbs x.b.natAbs := Nat.gcd_pos_of_pos_right _ (by omega)
  have ha : ∀ z : Int, (z.tdiv (s.a : Int)).natAbs <= z.natAbs := λ z => by rw [Int.natAbs_tdiv]; exact Nat.div_le_self _ _
  have e1 := ha x.a
  have e2 := ha x.b
  refine ⟨by omega, ?_, ?_⟩
  ·rw [LS (by omega) (by omega)]; unfold cS; rw [<- hg]
  ·rw [LS (by omega) (by omega)]; unfold cS; rw [<- hg])
theorem BFB {n d : Int} (h : 0 < d) : 0 < (cS n d).d /\ (cS n d).d <= d := by
 have hd : ((Nat.gcd n.natAbs d.natAbs : Nat) : Int) ∣ d := Int.ofNat_dvd_left.2 (Nat.gcd_dvd_right _ _)
 have hp : 0 < Nat.gcd n.natAbs d.natAbs := Nat.gcd_pos_of_pos_right _ (by omega)
 obtain ⟨c, hc⟩ := hd
 have hc0 : 0 < c := by
  rcases Int.lt_or_le 0 c with h1 | h1
  ·exact h1
  ·have := Int.mul_nonneg (show 0 <= ((Nat.gcd n.natAbs d.natAbs : Nat) : Int) by omega) (show 0 <= -c by omega)
   rw [Int.mul_neg, <- hc] at this; omega
 have e : (cS n d).d = c := by
  show d.tdiv _ = c
  generalize Nat.gcd n.natAbs d.natAbs = q at *
  rw [hc, Int.mul_tdiv_cancel_left _ (by omega)]
 rw [e]
 refine ⟨hc0, ?_⟩
 have := Int.mul_le_mul_of_nonneg_right (show (1 : Int) <= ((Nat.gcd n.natAbs d.natAbs : Nat) : Int) by omega) (show 0 <= c by omega)
 rw [<- hc] at this; omega
theorem ARQ {n d : Int} (h : 0 < d) : (cS n d).n * d = n * (cS n d).d := by
 have hd : ((Nat.gcd n.natAbs d.natAbs : Nat) : Int) ∣ d := Int.ofNat_dvd_left.2 (Nat.gcd_dvd_right _ _)
 have hn : ((Nat.gcd n.natAbs d.natAbs : Nat) : Int) ∣ n := Int.ofNat_dvd_left.2 (Nat.gcd_dvd_left _ _)
 have hp : 0 < Nat.gcd n.natAbs d.natAbs := Nat.gcd_pos_of_pos_right _ (by omega)
 show n.tdiv _ * d = n * d.tdiv _
 generalize Nat.gcd n.natAbs d.natAbs = q at *
 obtain ⟨c, rfl⟩ := hd
 obtain ⟨e, rfl⟩ := hn
 rw [Int.mul_tdiv_cancel_left _ (by omega), Int.mul_tdiv_cancel_left _ (by omega)]
 rw [Int.mul_comm (q : Int) e, Int.mul_assoc]
def ATX (x : Bnd) : Prop := CH Try.prog (ann 16 [(qL, G9)]) AHH (AI AHH) (xR2 x) (AD []) (.int (Lh (wr (x.lo.n * x.hi.d)) (wr (x.hi.n * x.lo.d)))) [] [] []
abbrev Tg:=@HMul.hMul Int Int Int (@instHMul Int Int.instMul)
abbrev bJ:=Bnd.lo
abbrev bN:=Bnd.hi
abbrev TH a b:=DR (Tg a b)
abbrev GY a:=RN (bJ a)
abbrev HB a:=SL (bN a)
abbrev GX a:=RN (bN a)
abbrev GW a:=SL (bJ a)
abbrev Ed a b:=wr (Tg a b)
attribute [go_sem] Tg bJ bN TH GY HB GX GW Ed
theorem BGG (x : Bnd) : (ATX x) = (AO (Jd (Ed (GW x) (GX x)) (Ed (HB x) (GY x))) (Jd (TH (GW x) (GX x)) (TH (HB x) (GY x)))) := by kernel_rfl
def AHC := pD dR2 λ x => .int (Lh (wr (x.lo.n * x.hi.d)) (wr (x.hi.n * x.lo.d)))
theorem kX : AL Try.prog vK AHC := Cq xR2 hR2 λ g _ => Lg (A := ann 16 [(qL, G9)]) (ren := []) (fz := []) BDG (by kernel_rfl) (AB AKI AF) (by
 show ATX g; rw [BGG]<;> delta AO Jd QP PD SL RN Tg bJ bN DR GX GW GY HB TH Ed; try rfl)
def yV (x : Ln) (s : Int) : Rt := cS (x.a1 * (x.b0 - x.a0) + (x.b1 - x.a1) * (s - x.a0)) (x.b0 - x.a0)
def NJ (x : Ln) : Prop := 0 <= x.a0 /\ x.a0 < x.b0 /\ x.b0 <= 2000 /\ 0 <= x.a1 /\ x.a1 <= x.b1 /\ x.b1 <= 200000
def BZN (a : LnI) : Prop := CH Try.prog (ann 34 [(AKQ, AWL)]) BRD (AI BRD) (xLI a) (AD []) (.d (eRt (yV a.x a.s))) [] [] []
abbrev Xe:=LnI.x
abbrev bH:=LnI.s
abbrev Y2:=yV
abbrev ACE a b:=TA a (KZ b)
abbrev dT a:=ACE (LU (Xe a)) (Xe a)
abbrev xE a b:=DK a (DR b)
abbrev ACY a b c:=xE (TH a b) c
abbrev Ht a b c d:=ACY a b (Tg (TA (MC c) a) (ACE d c))
abbrev AGA a:=KR (Xe a)
abbrev Jm a:=DT 0 a
attribute [go_sem] Xe bH Y2 ACE dT xE ACY Ht AGA Jm
theorem CDB (a : LnI) : (BZN a) = (JB (AH (Jm (dT a)) (DW (dT a) 2305843009213693952) (DW (-2305843009213693952) (Ht (AGA a) (dT a) (Xe a) (bH a))) (DW (Ht (AGA a) (dT a) (Xe a) (bH a)) 2305843009213693952)) (AO (SL (Y2 (Xe a) (bH a))) (SL (cS (Ht (AGA a) (dT a) (Xe a) (bH a)) (dT a)))) (RN (Y2 (Xe a) (bH a))) (RN (cS (Ht (AGA a) (dT a) (Xe a) (bH a)) (dT a)))) := by kernel_rfl
def BBN := pD dLI (λ a => .d (eRt (yV a.x a.s))) (λ a => [NJ a.x, 0 <= a.s /\ a.s <= 2000])
theorem BUI {x : Ln} {t : Int} (h : NJ x) (h2 : 0 <= t /\ t <= 2000) : (0 <= x.a1 * (x.b0 - x.a0) /\ x.a1 * (x.b0 - x.a0) <= 400000000) /\ -400000000 <= (x.b1 - x.a1) * (t - x.a0) /\ (x.b1 - x.a1) * (t - x.a0) <= 400000000 := by
 obtain ⟨h3, h4, h5, h6, h7, h8⟩ := h
 exact ⟨mulb (A := 200000) (B := 2000) (by omega) (by omega) (by omega) (by omega), CHC (A := 200000) (B := 2000) (by omega) (by omega) (by omega) (by omega)⟩
theorem BPJ : AL Try.prog ATR BBN := Cq xLI hLI λ a h => Lg (A := ann 34 [(AKQ, AWL)]) (ren := []) (fz := []) CDQ (by kernel_rfl) (AB BSH AF) (by
 show BZN a; rw [CDB]<;> delta KZ KR LU MC AO DW DT QP PD RO Ah SL RN Tg Xe bH Y2 AE DR DK AH TA xE ACE TH ACY JB Jm dT AGA Ht; try simp only [CC, eq_self, implies_true, forall_const]
 have hb := BUI h.1 h.2
 obtain ⟨⟨h3, h4, h5, h6, h7, h8⟩, h9, h10⟩ := h
 rw [LS (n := a.x.b0 - a.x.a0) (by omega) (by omega), LS (n := a.x.b1 - a.x.a1) (by omega) (by omega), LS (n := a.s - a.x.a0) (by omega) (by omega), LS (n := a.x.a1 * (a.x.b0 - a.x.a0)) (by omega) (by omega), LS (n := (a.x.b1 - a.x.a1) * (a.s - a.x.a0)) (by omega) (by omega), LS (n := a.x.a1 * (a.x.b0 - a.x.a0) + (a.x.b1 - a.x.a1) * (a.s - a.x.a0)) (by omega) (by omega)]
 exact ⟨⟨by omega, by omega, by omega, by omega⟩, rfl, rfl⟩)
theorem BFE {x : Ln} {t : Int} (h : NJ x) : 0 < (yV x t).d /\ (yV x t).d <= 2000 := by
 have := BFB (n := x.a1 * (x.b0 - x.a0) + (x.b1 - x.a1) * (t - x.a0)) (d := x.b0 - x.a0) (by have := h.2.1; omega)
 refine ⟨this.1, ?_⟩
 have h1 := h.1
 have h3 := h.2.2.1
 have := this.2
 show (cS _ _).d <= _
 omega
def APN (r : Rt) : Rt := if r.n < 0 then ⟨0, 1⟩ else if 200000 * r.d < r.n then ⟨200000, 1⟩ else r
def ASR (r : Rt) : Prop := CH Try.prog (ann 17 []) AII (AI AII) (xR1 r) (AD []) (.d (eRt (APN r))) [] [] []
abbrev hd81:=APN
abbrev uB a b c d:=EB (AO a b) c d
attribute [go_sem] hd81 uB
theorem BEO (r : Rt) : (ASR r) = (IF (SL r) 0 (EB (CD (SL (hd81 r))) (RN (hd81 r)) 1) (FA (ZR (SL r) (TH 200000 (RN r))) (uB (SL (hd81 r)) 200000 (RN (hd81 r)) 1) (uB (SL (hd81 r)) (SL r) (RN (hd81 r)) (RN r)))) := by kernel_rfl
def AHR := pD dR1 (λ r => .d (eRt (APN r))) (λ r => [0 < r.d /\ r.d <= 4000000])
theorem BDA : AL Try.prog vH AHR := Cq xR1 hR1 λ r h => Lg (A := ann 17 []) (ren := []) (fz := []) BFZ (by kernel_rfl) AF (by
 show ASR r; rw [BEO]<;> delta KN FA AO ZR QP PD SL RN Tg hd81 DR CD IF EB TH uB; try simp only [CC, eq_self, implies_true, forall_const]
 obtain ⟨h1, h2⟩ : 0 < r.d /\ r.d <= 4000000 := h
 rw [LS (by omega) (by omega)]
 unfold APN
 refine ⟨λ h3 => by simp [h3], λ h3 => ⟨λ h4 => ?_, λ h4 => ?_⟩⟩
 ·rw [if_neg h3, if_pos (by omega)]; exact ⟨rfl, rfl⟩
 ·rw [if_neg h3, if_neg (by omega)]; exact ⟨rfl, rfl⟩)
def JP (x : Ln) (s : Int) : Rt := APN (yV x s)
def BJH (a : LnI) : Prop := CH Try.prog (ann 9 [(ATR, BBN), (vH, AHR)]) AXN (AI AXN) (xLI a) (AD []) (.d (eRt (JP a.x a.s))) [] [] []
abbrev JN a:=DW a 2000
abbrev LI a b c d e f:=AJ a b c d (DW e f)
abbrev NP a:=IG (KZ a) (LI (DT (KZ a) (LU a)) (JN (LU a)) (CA (KR a)) (DW (KR a) (MC a)) (MC a) 200000)
attribute [go_sem] JN LI NP
theorem BNO (a : LnI) : (BJH a) = (JB (AH (NP (Xe a)) (IG (bH a) (JN (bH a))) (Jm (RN (Y2 (Xe a) (bH a)))) (DW (RN (Y2 (Xe a) (bH a))) 4000000)) (AO (SL (JP (Xe a) (bH a))) (SL (hd81 (Y2 (Xe a) (bH a))))) (RN (JP (Xe a) (bH a))) (RN (hd81 (Y2 (Xe a) (bH a))))) := by kernel_rfl
def AWA := pD dLI (λ a => .d (eRt (JP a.x a.s))) (λ a => [NJ a.x, 0 <= a.s /\ a.s <= 2000])
theorem BMG : AL Try.prog ALQ AWA := Cq xLI hLI λ a h => Lg (A := ann 9 [(ATR, BBN), (vH, AHR)]) (ren := []) (fz := []) BPA (by kernel_rfl) (AB BPJ (AB BDA AF)) (by
 show BJH a; rw [BNO]<;> delta KZ KR LU MC AO DW DT SL RN Xe bH Y2 hd81 AE AJ AH CA IG LI JN JB Jm NP; try simp only [CC, eq_self, implies_true, forall_const]
 have := BFE (t := a.s) h.1
 exact ⟨⟨h.1, h.2, this.1, by omega⟩, rfl, rfl⟩)
def BP (p : Pt) : Ln := if p.st = 2000 then ⟨p.st - 1, p.fl, p.st, p.fl⟩ else ⟨p.st, p.fl, p.st + 1, p.fl⟩
def BJW (p : Pt) : Prop := CH Try.prog (ann 22 []) AWQ (AI AWQ) (xP1 p) (AD []) (.d (eLn (BP p))) [] [] []
abbrev TU:=@BEq.beq Int (@instBEqOfDecidableEq Int Int.instDecidableEq)
abbrev hd84:=BP
abbrev QY a b:=AO (MC a) b
abbrev An a b:=AO (LU a) b
abbrev UF a b:=AO (KR a) b
abbrev TW a b:=AO (KZ a) b
abbrev QJ a:=TA a 1
attribute [go_sem] TU hd84 QY An UF TW QJ
theorem BMI (p : Pt) : (BJW p) = (FA (TU (pX p) 2000) (AH (TW (hd84 p) (QJ (pX p))) (UF (hd84 p) (Uz p)) (An (hd84 p) (pX p)) (QY (hd84 p) (Uz p))) (AH (TW (hd84 p) (pX p)) (UF (hd84 p) (Uz p)) (An (hd84 p) (DP (pX p))) (QY (hd84 p) (Uz p)))) := by kernel_rfl
def uP := pD dP1 (λ p => .d (eLn (BP p))) (λ p => [0 <= p.st /\ p.st <= 2000])
theorem Sm : AL Try.prog oU uP := Cq xP1 hP1 λ p h => Lg (A := ann 22 []) (ren := []) (fz := []) BPT (by kernel_rfl) AF (by
 show BJW p; rw [BMI]<;> delta pX Uz KZ KR LU MC FA AO QP PD RO Ah TU hd84 AE DR DK AH TA DP QJ An QY UF TW
 obtain ⟨h1, h2⟩ : 0 <= p.st /\ p.st <= 2000 := h
 rw [LS (by omega) (by omega), LS (by omega) (by omega), BAO]
 unfold BP
 by_cases h : p.st = 2000 <;> simp [h])
def KI (x : Ln) (g : Gau) : Bool := decide (g.lo * (yV x g.st).d <= (yV x g.st).n) && decide ((yV x g.st).n <= g.hi * (yV x g.st).d)
def XH (g : Gau) : Prop := 0 <= g.st /\ g.st <= 2000 /\ 0 <= g.lo /\ g.lo <= g.hi /\ g.hi <= 200000
def BAX (a : LnG) : Prop := CH Try.prog (ann 30 [(ATR, BBN)]) APE (AI APE) (xLG a) (AD []) (.bool (KI a.x a.g)) [] [] []
abbrev hd85:=LnG.x
abbrev hd86:=LnG.g
abbrev PF a b c d:=And (AE a b c) d
abbrev LO a:=JN (GH a)
abbrev LA a:=CA (GH a)
attribute [go_sem] hd85 hd86 PF LO LA
theorem BLF (a : LnG) : (BAX a) = (PF (NP (hd85 a)) (LA (hd86 a)) (LO (hd86 a)) (KY (KI (hd85 a) (hd86 a)) (Ov (hd6 (SL (Y2 (hd85 a) (GH (hd86 a)))) (TH (HK (hd86 a)) (RN (Y2 (hd85 a) (GH (hd86 a)))))) (SL (Y2 (hd85 a) (GH (hd86 a)))) (TH (FK (hd86 a)) (RN (Y2 (hd85 a) (GH (hd86 a)))))))) := by kernel_rfl
def BCS := pD dLG (λ a => .bool (KI a.x a.g)) (λ a => [NJ a.x, XH a.g])
theorem BKW : AL Try.prog X5 BCS := Cq xLG hLG λ a h => Lg (A := ann 30 [(ATR, BBN)]) (ren := []) (fz := []) BKR (by kernel_rfl) (AB BPJ AF) (by
 show BAX a; rw [BLF]<;> delta KY hd5 hd6 hd7 Dc GH HK FK KZ KR LU MC DW DT QP PD SL RN Tg Y2 hd85 hd86 AE AJ DR CA IG LI JN HG LO LA TH Ov PF NP; try simp only [CC, eq_self, implies_true, forall_const]
 obtain ⟨h1, h2, h3, h4, h5, h6⟩ : NJ a.x /\ XH a.g := h
 have hd := BFE (t := a.g.st) h1
 have b1 := mulb (A := 200000) (B := 2000) h4 (by omega) (show 0 <= (yV a.x a.g.st).d by omega) hd.2
 have b2 := mulb (A := 200000) (B := 2000) (show 0 <= a.g.hi by omega) (by omega) (show 0 <= (yV a.x a.g.st).d by omega) hd.2
 rw [LS (by omega) (by omega), LS (by omega) (by omega)]
 refine ⟨⟨h1, h2, h3⟩, ?_⟩
 unfold KI
 cases decide (a.g.lo * (yV a.x a.g.st).d <= (yV a.x a.g.st).n) <;> simp_all)
end Go.Bal
