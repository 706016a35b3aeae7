/- Package chart, with the reference: settled. -/
import Derived.Test.YtdbjalgfomknhaaGreatChZc
set_option linter.unusedVariables false
set_option linter.unusedSimpArgs false
namespace Go.Bal
open Go Go.Sym Go.Proofs
def dZL : List AVal -> Heap -> Option (ZL × List (Nat × Nat) × List Nat)
 | [x, y, z], H => match vO x H, G1 y H, Vb z H with
  | some (c, f), some (l, e), some (s, g) => some (⟨⟨c, l⟩, s⟩, [], f ++ e ++ g)
  | _, _, _ => none
 | _, _ => none
structure FB where
 f : Nat -> Span
 b : Bool
 k : Nat
 deriving Inhabited
def seR (x : ZL) (f : Nat -> Span) : HCell := .live (.row 2 x.l.length λ i => FX (f i))
def seH (x : ZL) (f : Nat -> Span) : List (Nat × HCell) := [(201, .live (oI x.a.c)), (202, seR x f)]
def seS (x : ZL) (b : Bool) : List (Nat × AVal) := [(1, .d (JO x.a.z)), (3, .bptr 201 0), (8, .own 202 2 0 x.l.length), (9, .bool b)]
def M9 (x : ZL) (s : FB) : Nat := gG s.f x.l.length + (bif s.b then 1 else 0)
def se3 (x : ZL) : Shape := { α := FB, dflt := default, T := λ s => ⟨seS x s.b, seH x s.f⟩, inv := λ s => SetI x s.f /\ (s.b = false -> neF s.f x.l.length /\ fixF x s.f (x.l.length - 1)), meas := λ s => M9 x s, first := [(201, 1000), (202, 2032)] }
def se6 (x : ZL) (m : Nat) : Shape := { α := FB, dflt := default, T := λ s => ⟨seS x false ++ [(10, .int s.k)], seH x s.f⟩, inv := λ s => (s.k <= x.l.length /\ gG s.f x.l.length + 1 = m) /\ SetI x s.f /\ neF s.f s.k, meas := λ s => x.l.length - s.k }
def se11 (x : ZL) (m : Nat) : Shape := { α := FB, dflt := default, T := λ s => ⟨seS x s.b ++ [(11, .int s.k)], seH x s.f⟩, inv := λ s => (s.k <= x.l.length - 1 /\ SetI x s.f /\ neF s.f x.l.length) /\ M9 x s < m /\ (s.b = false -> fixF x s.f s.k), meas := λ s => x.l.length - s.k }
def se16 (x : ZL) (m q : Nat) : Shape := { α := FB, dflt := default, T := λ s => ⟨seS x s.b ++ [(11, .int s.k), (12, .bptr 203 0), (13, .bptr 204 0)], seH x s.f ++ [(203, .live (.box [.int (Dt x s.k (s.f s.k) (s.f (s.k + 1))).lo, .int (Dt x s.k (s.f s.k) (s.f (s.k + 1))).hi])), (204, .live (.box [.int (bC x s.k (s.f s.k) (s.f (s.k + 1))).lo, .int (bC x s.k (s.f s.k) (s.f (s.k + 1))).hi]))]⟩, inv := λ s => (s.k + 1 < x.l.length /\ x.l.length - s.k = q /\ SetI x s.f /\ neF s.f x.l.length) /\ M9 x s < m /\ (s.b = false -> fixF x s.f s.k), meas := λ s => 0, first := [(203, 14144), (204, 14160)] }
def C_zSet : Ctr := { α := ZL, xs := λ x => [.d (Ef x.a.c), .d (JO x.a.z), .d (DA x.l)], val := λ x => .tup [.d (DA (Wl x).1), .bool (Wl x).2], keep := λ _ => [], pre := λ x => [PreS x] }
def AYL (x : ZL) : Ann := { ann 130 [(P0, C_zLea.spec dCtI), (AFR, C_zMos.spec dCZG)] with mt := λ id => id == 1, loops := λ id => if id = 3 then some [se3 x] else none, inner := λ gs id => if id = 6 then some [se6 x (gs.getD 0 0)] else if id = 11 then some [se11 x (gs.getD 0 0)] else none, cutIn := λ gs id => if id = 16 then some [se16 x (gs.getD 1 0) (gs.getD 0 0)] else none }
def AXJ (x : ZL) : Prop := CL Try.prog (AYL x) qG (AH qG) (C_zSet.xs x) (AB []) (.tup [.d (DA (Wl x).1), .bool (Wl x).2]) [] [] [202]
abbrev oP:=@Exists FB
abbrev IL:=ZL.a
abbrev bT:=FB.b
abbrev KX:=FB.f
abbrev hC:=Dt
abbrev gX:=bC
abbrev ACG:=λ (f : FB -> Prop) => ∀ (x : FB), f x
abbrev ES:=FB.k
abbrev Ox a:=Vc (Wl a)
abbrev NT a b:=BA (KX a b)
abbrev Yw a:=kJ (Wl a)
abbrev FD a:=CU (ZL.l a)
abbrev Vn a b:=BX (EU (bT a)) b
abbrev Bj a b:=KX a (FK b)
abbrev Wi a b c:=hd40 a (Bj b c)
abbrev Wa a b c:=hd40 a (KX b c)
abbrev fM a:=Dx (FD a)
abbrev Ix a b:=BI (KX a b)
abbrev Io a b c d e f:=BE a b (HD (NT c d) (Ix e f))
abbrev Ii a b:=SetI a (KX b)
abbrev Ep a:=BC (FD a)
abbrev OW a:=FT (IL a)
abbrev Ys a b c:=Tg a (OW b) c
abbrev Xc a b:=SV (IL a) b
abbrev kQ a:=NV (IL a)
abbrev Zq a b c:=Rk a (kQ b) (OW c)
abbrev Zj a:=BC (kQ a)
abbrev Nq a:=AL (OW a)
abbrev Lg a:=AM (OW a)
abbrev Xy a:=Xf (IL a)
abbrev Qt a b c d:=gX a (ES b) (KX c (ES c)) (Bj d (ES d))
abbrev Dz a b c d:=hC a (ES b) (KX c (ES c)) (Bj d (ES d))
abbrev VF a:=BB (ES a)
abbrev Qd a:=CJ (ES a)
abbrev Xm a:=MH (Qd a)
abbrev eE a:=BU (ES a)
abbrev Jx a b:=CE a (BB b)
attribute [go_sem] oP IL bT KX hC gX ACG ES Ox NT Yw FD Vn Bj Wi Wa fM Ix Io Ii Ep OW Ys Xc kQ Zq Zj Nq Lg Xy Qt Dz VF Qd Xm eE Jx
theorem BCJ (x : ZL) : (AXJ x) = (AE (PA (TE AI 0) (TE LG (FD x)) (MB (FD x)) (Fk (FD x)) (Ab (BB (FD x)))) (oP (λ i=>AE (HP (Xy x) (Oz (IL x)) AI (Jx (FD x) (FD x)) (DI (bT i)) (Lg x) (Nq x) (Ga (OW x) (Zj x) (λ j=>Zq j x x) (λ j=>Ys j x (Xc x j)) (Jx (FD x) (FD x)) (AC (λ j=>JZ j (FD x) (NT i j) (EM (ZL.l x) (RV j)) (KX i j) (LU (ZL.l x) (RV j)))))) (Ii x i) (Vn i (MU (AC (λ j=>Io j (FD x) i j i j)) (λ j=>BS j (fM x) (Wa (hC x j (KX i j) (Bj i j)) i j) (Wi (gX x j (KX i j) (Bj i j)) i j)))))) (ACG (λ i=>HX (And (Ii x i) (Vn i (MU (AC (λ j=>Io j (FD x) i j i j)) (λ j=>BS j (fM x) (Wa (hC x j (KX i j) (Bj i j)) i j) (Wi (gX x j (KX i j) (Bj i j)) i j))))) (bT i) (oP (λ j=>AN (BY (Xy x) (λ k=>Ui k (IL x)) AI (Ep x) (EZ Aq) (BR (ES j)) (Lg x) (Nq x) (Ga (OW x) (Zj x) (λ k=>Zq k x x) (λ k=>Ys k x (Xc x k)) (Ep x) (AC (λ k=>JZ k (FD x) (NT j k) (NT i k) (KX j k) (KX i k))))) (JI (ES j) (FD x) (CE (FK (gG (KX j) (FD x))) (M9 x i))) (Ii x j) (AC (λ k=>Io k (ES j) j k j k)))) (ACG (λ j=>CO (IF (JI (ES j) (FD x) (CE (FK (gG (KX j) (FD x))) (M9 x i))) (Ii x j) (λ k=>Io k (ES j) j k j k)) (ES j) (FD x) (iN (DG (ES j) (FD x)) (CM (VF j) (FD x)) (ME (VF j) (FD x))) (DX (As (NT j (VF j)) (Ix j (VF j))) (Yc (Yw x) (EU (Ox x))) (oP (λ k=>DU (BY (Xy x) (λ l=>Ui l (IL x)) AI (Ep x) (EZ Aq) (BH (ES k) (ES j)) (Lg x) (Nq x) (Ga (OW x) (Zj x) (λ l=>Zq l x x) (λ l=>Ys l x (Xc x l)) (Ep x) (AC (λ l=>JZ l (FD x) (NT k l) (NT j l) (KX k l) (KX j l))))) (IF (JI (ES k) (FD x) (CE (FK (gG (KX k) (FD x))) (M9 x i))) (Ii x k) (λ l=>Io l (ES k) k l k l)) (FD x) (ES k) (ES j)))) (And (oP (λ k=>AN (BY (Xy x) (λ l=>Ui l (IL x)) AI (Ep x) (EU (bT k)) (BR (ES k)) (Lg x) (Nq x) (Ga (OW x) (Zj x) (λ l=>Zq l x x) (λ l=>Ys l x (Xc x l)) (Ep x) (AC (λ l=>JZ l (FD x) (NT k l) (NT j l) (KX k l) (KX j l))))) (IF (DH (ES k) (fM x)) (Ii x k) (λ l=>Io l (FD x) k l k l)) (CM (M9 x k) (M9 x i)) (Vn k (AC (λ l=>BS l (ES k) (Wa (hC x l (KX k l) (Bj k l)) k l) (Wi (gX x l (KX k l) (Bj k l)) k l)))))) (ACG (λ k=>BX (AE (IF (DH (ES k) (fM x)) (Ii x k) (λ l=>Io l (FD x) k l k l)) (CM (M9 x k) (M9 x i)) (Vn k (AC (λ l=>BS l (ES k) (Wa (hC x l (KX k l) (Bj k l)) k l) (Wi (gX x l (KX k l) (Bj k l)) k l))))) (DX (IP (Qd k) (BU (FD x))) (AN (AN (DG (ES k) (FD x)) (CM (VF k) (FD x)) (DQ (Qd k) (FD x)) (PE (Qd k) (FD x))) (UH (OW x) (PF (IL x) (kQ x)) (λ l=>JW l (IL x) (OW x)) (PU (IL x) (OW x)) (DO (λ l=>YF l (IL x) (Xc x l)) (JR (IL x)) (λ l=>LJ l (IL x)) (BW (ES k)) (AE (LV (ES k) (PG (eE k) 1) (TB (IL x))) (PY (IL x)) (OO (IL x))) (Lg x) (Nq x) (AP (OW x)) (JA (OW x) (PF (IL x) (kQ x)) (RN (IL x) (OW x)) (PU (IL x) (OW x)) (λ l=>YF l (IL x) (Xc x l)) (BW (ES k)) (LV (ES k) (PG (eE k) 1) (TB (IL x))) (OO (IL x))))) (And (And (Lg x) (FP (Nq x) (AP (OW x)) (AS (OW x)) (AT (OW x)) (PF (IL x) (kQ x)) (λ l=>JW l (IL x) (OW x)) (PU (IL x) (OW x)) (AC (λ l=>YF l (IL x) (Xc x l))) (AR (BW (ES k)) (And (LV (ES k) (PG (eE k) 1) (TB (IL x))) (OO (IL x))) (Lg x) (Nq x) (AP (OW x)) (AS (OW x)) (AT (OW x)) (PF (IL x) (kQ x)) (DO (λ l=>JW l (IL x) (OW x)) (PU (IL x) (OW x)) (λ l=>YF l (IL x) (Xc x l)) (JR (IL x)) (Bq (IL x)) (BW (ES k)) (LV (ES k) (PG (eE k) 1) (TB (IL x))) (PY (IL x)) (OO (IL x)))))) (oP (λ l=>AN (AG (Xy x) (Oz (IL x)) AI (Ep x) (AR (KY (bT l) (bT k)) (IN (ES l) (ES k)) (Lg x) (Nq x) (AP (OW x)) (AS (OW x)) (AT (OW x)) (Zj x) (DO (λ m=>Zq m x x) (DB (OW x)) (λ m=>Ys m x (Xc x m)) (Ep x) (AC (λ m=>JZ m (FD x) (NT l m) (NT k m) (KX l m) (KX k m))) (KP (Dz x l l l) (WK (NT k (VF k)) (KU (NT k (Xm k)) (Hb (PN (IL x)) (eE k))))) (BF (Dz x l l l) (Nm (Ix k (VF k)) (KU (Ix k (Xm k)) (Re (Mx (OW x)) (XL (KG (IL x)) (ES k)))))) (KP (Qt x l l l) (WK (NT k (Xm k)) (GF (WK (NT k (VF k)) (KU (NT k (Xm k)) (Hb (PN (IL x)) (eE k)))) (Re (Mx (OW x)) (XL (KG (IL x)) (ES k)))))) (BF (Qt x l l l) (Nm (Ix k (Xm k)) (GF (Nm (Ix k (VF k)) (KU (Ix k (Xm k)) (Re (Mx (OW x)) (XL (KG (IL x)) (ES k))))) (Hb (PN (IL x)) (eE k)))))))) (AN (CM (FK (ES l)) (FD x)) (Iq (JV (FD x) (ES l)) (FD x) (ES k)) (Ii x l) (AC (λ m=>Io m (FD x) l m l m))) (CM (M9 x l) (M9 x i)) (Vn l (AC (λ m=>BS m (ES l) (Wa (hC x m (KX l m) (Bj l m)) l m) (Wi (gX x m (KX l m) (Bj l m)) l m))))))) (ACG (λ l=>BX (AE (AN (CM (FK (ES l)) (FD x)) (Iq (JV (FD x) (ES l)) (FD x) (ES k)) (Ii x l) (AC (λ m=>Io m (FD x) l m l m))) (CM (M9 x l) (M9 x i)) (Vn l (AC (λ m=>BS m (ES l) (Wa (hC x m (KX l m) (Bj l m)) l m) (Wi (gX x m (KX l m) (Bj l m)) l m))))) (ND (DG (ES l) (FD x)) (CM (VF l) (FD x)) (UJ (not (Ck (BA (Dz x l l l)) (NT l (VF l)) (BI (Dz x l l l)) (Ix l (VF l)))) (Qd l) (FD x)) (HL (not (Ck (BA (Dz x l l l)) (NT l (VF l)) (BI (Dz x l l l)) (Ix l (VF l)))) (PE (Qd l) (FD x))) (DV (NC (Ck (BA (Dz x l l l)) (NT l (VF l)) (BI (Dz x l l l)) (Ix l (VF l))) (Ck (BA (Qt x l l l)) (NT l (Xm l)) (BI (Qt x l l l)) (Ix l (Xm l)))) (AN (DG (ES l) (FD x)) (CM (VF l) (FD x)) (DQ (Qd l) (FD x)) (PE (Qd l) (FD x))) (Gk (Su (BA (Dz x l l l)) (Dz x l l l)) (Su (BA (Qt x l l l)) (Qt x l l l)) (Yc (Yw x) (EU (Ox x))) (oP (λ m=>DU (BY (Xy x) (λ n=>Ui n (IL x)) AI (Ep x) (DI (bT m)) (BH (ES m) (ES l)) (Lg x) (Nq x) (Ga (OW x) (Zj x) (λ n=>Zq n x x) (λ n=>Ys n x (Xc x n)) (Ep x) (AC (λ n=>KH n (FD x) (NT m n) (KN n (Qd l) (BA (Qt x l l l)) (WZ n (VF l) (BA (Dz x l l l)) (NT l n))) (KX m n) (KN n (Qd l) (BI (Qt x l l l)) (WZ n (VF l) (BI (Dz x l l l)) (Ix l n))))))) (AE (IF (DH (ES m) (fM x)) (Ii x m) (λ n=>Io n (FD x) m n m n)) (CM (M9 x m) (M9 x i)) (Vn m (AC (λ n=>BS n (ES m) (Wa (hC x n (KX m n) (Bj m n)) m n) (Wi (gX x n (KX m n) (Bj m n)) m n))))) (FD x) (ES m) (ES k)))) (Gk (Su (BA (Dz x l l l)) (Dz x l l l)) (Su (BA (Qt x l l l)) (Qt x l l l)) (Yc (Yw x) (EU (Ox x))) (oP (λ m=>DU (BY (Xy x) (λ n=>Ui n (IL x)) AI (Ep x) (KY (bT m) (bT l)) (BH (ES m) (ES l)) (Lg x) (Nq x) (Ga (OW x) (Zj x) (λ n=>Zq n x x) (λ n=>Ys n x (Xc x n)) (Ep x) (AC (λ n=>JZ n (FD x) (NT m n) (NT l n) (KX m n) (KX l n))))) (AE (IF (DH (ES m) (fM x)) (Ii x m) (λ n=>Io n (FD x) m n m n)) (CM (M9 x m) (M9 x i)) (Vn m (AC (λ n=>BS n (ES m) (Wa (hC x n (KX m n) (Bj m n)) m n) (Wi (gX x n (KX m n) (Bj m n)) m n))))) (FD x) (ES m) (ES k))))))))) (oP (λ l=>JG (HP (Xy x) (Oz (IL x)) AI (Ep x) (KY (bT l) (bT k)) (Lg x) (Nq x) (Ga (OW x) (Zj x) (λ m=>Zq m x x) (λ m=>Ys m x (Xc x m)) (Ep x) (AC (λ m=>JZ m (FD x) (NT l m) (NT k m) (KX l m) (KX k m))))) (And (Ii x l) (Vn l (MU (AC (λ m=>Io m (FD x) l m l m)) (λ m=>BS m (fM x) (Wa (hC x m (KX l m) (Bj l m)) l m) (Wi (gX x m (KX l m) (Bj l m)) l m))))) (M9 x l) (M9 x i))))))))) (VL (LO (Yw x) (FD x)) (NP (FD x)) (λ j=>UG j (Yw x) j (NT i (BB j)) (KX i (BB j))) (DI (Ox x)))))) := by kernel_rfl
theorem vM {a b : Span} : (a.lo == b.lo && (a.hi == b.hi && true)) = true ↔ a = b := by
 obtain ⟨a1, a2⟩ := a; obtain ⟨b1, b2⟩ := b
 simp
theorem AQV {a b c d : Span} {v : Bool} (h : (bif !(a.lo == b.lo && (a.hi == b.hi && true)) then true else !(c.lo == d.lo && (c.hi == d.hi && true))) = v) : (v = true -> a ≠ b ∨ c ≠ d) /\ (v = false -> a = b /\ c = d) := by
 rw [<- h]
 cases q1 : (a.lo == b.lo && (a.hi == b.hi && true)) with
 | false => exact ⟨λ _ => .inl λ e => (by rw [vM.2 e] at q1; cases q1), λ h => (by cases h)⟩
 | true =>
  cases q2 : (c.lo == d.lo && (c.hi == d.hi && true)) with
  | false => exact ⟨λ _ => .inr λ e => (by rw [vM.2 e] at q2; cases q2), λ h => (by cases h)⟩
  | true => exact ⟨λ h => (by cases h), λ _ => ⟨vM.1 q1, vM.1 q2⟩⟩
theorem AFC {a b : Span} {v : Bool} (h : (bif decide (a.lo > a.hi) then true else decide (b.lo > b.hi)) = v) : (v = true -> a.lo > a.hi ∨ b.lo > b.hi) /\ (v = false -> a.lo <= a.hi /\ b.lo <= b.hi) := by
 rw [<- h]
 by_cases q1 : a.lo > a.hi
 ·rw [decide_eq_true q1]; exact ⟨λ _ => .inl q1, λ h => (by cases h)⟩
 ·rw [decide_eq_false q1]
  by_cases q2 : b.lo > b.hi
  ·rw [decide_eq_true q2]; exact ⟨λ _ => .inr q2, λ h => (by cases h)⟩
  ·rw [decide_eq_false q2]; exact ⟨λ h => (by cases h), λ _ => ⟨by omega, by omega⟩⟩
theorem ASE {x : ZL} (h : PreS x) {f : Nat -> Span} (hf : SetI x f) (hn : neF f x.l.length) {g : Nat} (hg : g + 1 < x.l.length) (he : (Dt x g (f g) (f (g + 1))).lo > (Dt x g (f g) (f (g + 1))).hi ∨ (bC x g (f g) (f (g + 1))).lo > (bC x g (f g) (f (g + 1))).hi) : Wl x = ([], false) :=
 AZV h λ t ht => by
  have := AUY h hf hg (hn g (by omega)) (hn (g + 1) hg) ht
  unfold Span.has at this; omega
theorem BNO (x : ZL) (h : PreS x) : AXJ x := by
 have hl := h.len1
 have hz := h.zl
 have h0 := h.c0
 have hlen := h.len
 rw [BCJ]<;> delta KY Aq BA BI FW OH PR Cs EX FI CE CU AC BX CM AQ LU BU DH hd40 DX IP HD LS PG WK Nm JV ER GP GA HQ HT HC HR DS GB ED LG WI IX As HV QT LL YY BV BQ Uc FT SA NM Re kJ Vc oP IL bT KX hC gX ACG ES AE BG AW EO GJ GI AG SV GM NV BF BE UR CK AR VB CN BD AF CG BC EZ YT AO CQ BS CV Dc JL CY BO HK CR AL ZB Ao QX Bc Cl CF AM AT DR DZ GF GG BB DW AS EG FC Db AP FG DC DB CS HW FV TB GR FZ DF KU FK HA FU EM KG FE ET CJ GQ AN BY NY FY FJ EV EJ KD DI Hh MH OW FD WZ FL HY AI HH LR OK LV Df JG BH HL JI OM JF JP DV JZ HJ DQ MT DG PN iN Rk LX EK Xc MG OX QV Bf IN LO KE MD IS KC MU Bj HG EU HX ME Iq DU GZ UH LI IY SS OC PF NT UE PU PC BR BW SU KP Dx RT VG FP CO MB Xf HP lL HE NL VE DO QC OP TE XY KN NC JA JR NP Ga QM JW Ui YF Ix XV PE kQ OO VF PY SC LJ Tg KH Qd WY IF Fe Oz RN Ep RV ND Yc Ii Lg Dz Nq PA aH Ab UJ UG Mx VL Ck Vn Xy Xm Zj Bq Io Gk Wi Wa Jx fM Qt Ox Yw eE Ys Zq Su Fk; simp only [CC, eq_self, implies_true, forall_const, DN, Cg]
 refine ⟨⟨(λ h => by cases h), by omega, by omega⟩, ⟨⟨gD x.l, true, 0⟩, ⟨rfl, λ i _ => ⟨rfl, rfl⟩⟩, ⟨λ i hi => ⟨Int.le_refl _, Int.le_refl _⟩, λ t ht i hi => ht.at_ i (by omega)⟩, (λ h => by cases h)⟩, λ s ⟨s1, s2⟩ => ⟨λ hb => ?_, λ hb => ?_⟩⟩
 ·have hm : M9 x s = gG s.f x.l.length + 1 := by unfold M9; rw [hb]; rfl
  refine ⟨⟨⟨s.f, false, 0⟩, ⟨rfl, λ i _ => ⟨rfl, rfl⟩⟩, ⟨Nat.zero_le _, hm.symm⟩, s1, λ i hi => absurd hi (Nat.not_lt_zero _)⟩, λ q ⟨⟨q1, q2⟩, q3, q4⟩ => ⟨λ hlt => ⟨⟨by omega, by omega, by omega, by omega⟩, λ he => ?_, λ he => ⟨⟨q.f, false, q.k + 1⟩, ⟨(FH (by omega)).symm, λ i _ => ⟨rfl, rfl⟩⟩, ⟨⟨by show q.k + 1 <= _; omega, q2⟩, q3, λ i hi => ?_⟩, by show x.l.length - (q.k + 1) < _; omega⟩⟩, λ hge => ?_⟩⟩
  ·rw [AZV h λ t ht => ?_]
   ·exact ⟨rfl, rfl, rfl⟩
   ·have := q3.tr t ht q.k (by omega)
    unfold Span.has at this; omega
  ·by_cases e : i = q.k
   ·subst e; show (q.f q.k).lo <= (q.f q.k).hi; omega
   ·exact q4 i (by have : i < q.k + 1 := hi; omega)
  ·have qn : neF q.f x.l.length := λ i hi => q4 i (by omega)
   refine ⟨⟨⟨q.f, false, 0⟩, ⟨rfl, rfl, λ i _ => ⟨rfl, rfl⟩⟩, ⟨Nat.zero_le _, q3, qn⟩, ?_, λ _ g hg => absurd hg (Nat.not_lt_zero _)⟩, λ r ⟨⟨r1, r2, r3⟩, r4, r5⟩ => ?_⟩
   ·show gG q.f _ + 0 < M9 x s; omega
   have ew : IntKind.i64.wrap ((r.k : Int) + 1) = ((r.k + 1 : Nat) : Int) := FH (by omega)
   simp only [ew, Int.toNat_natCast]
   refine ⟨λ hlt => ?_, λ hge => ?_⟩
   ·refine ⟨⟨by omega, by omega, by omega, by omega⟩, ⟨⟨by omega, hz, h0⟩, by omega, h0⟩, ⟨⟨⟨by omega, h0⟩, by omega, hz, h0⟩, ⟨r.f, r.b, r.k⟩, ⟨rfl, rfl, λ i _ => ⟨rfl, rfl⟩, rfl, rfl, rfl, rfl⟩, ⟨by show r.k + 1 < _; omega, rfl, r2, r3⟩, r4, r5⟩, λ v ⟨⟨v1, v2, v3, v4⟩, v5, v6⟩ => ?_⟩
    have ev : IntKind.i64.wrap ((v.k : Int) + 1) = ((v.k + 1 : Nat) : Int) := FH (by omega)
    simp only [ev, Int.toNat_natCast]
    refine ⟨⟨by omega, by omega, λ _ => by omega, λ _ => by omega⟩, λ hd => ⟨⟨by omega, by omega, by omega, by omega⟩, λ he => ?_, λ he => ?_⟩, λ hd => ⟨λ he => ?_, λ he => ?_⟩⟩
    ·rw [ASE h v3 v4 v1 ((AFC he).1 rfl)]; exact ⟨rfl, rfl, rfl⟩
    ·obtain ⟨e1, e2⟩ := (AFC he).2 rfl
     obtain ⟨u1, u2, u3⟩ := BLL h v3 v4 v1 e1 e2 ((AQV hd).1 rfl)
     refine ⟨⟨upF v.f v.k (Dt x v.k (v.f v.k) (v.f (v.k + 1))) (bC x v.k (v.f v.k) (v.f (v.k + 1))), true, v.k + 1⟩, ⟨rfl, rfl, λ i hi => ?_⟩, ⟨⟨by show v.k + 1 <= _; omega, u1, u2⟩, ?_, (λ h => by cases h)⟩, by show x.l.length - (v.k + 1) < _; omega⟩
     ·show (upF _ _ _ _ i).lo = _ /\ (upF _ _ _ _ i).hi = _
      unfold upF
      by_cases c1 : i = v.k + 1
      ·rw [if_pos c1, decide_eq_true c1]; exact ⟨rfl, rfl⟩
      ·rw [if_neg c1, decide_eq_false c1]
       by_cases c2 : i = v.k
       ·rw [if_pos c2, decide_eq_true c2]; exact ⟨rfl, rfl⟩
       ·rw [if_neg c2, decide_eq_false c2]; exact ⟨rfl, rfl⟩
     ·have : gG v.f x.l.length <= M9 x v := Nat.le_add_right _ _
      exact Nat.lt_of_le_of_lt (Nat.le_trans u3 this) v5
    ·rw [ASE h v3 v4 v1 ((AFC he).1 rfl)]; exact ⟨rfl, rfl, rfl⟩
    ·obtain ⟨d1, d2⟩ := (AQV hd).2 rfl
     refine ⟨⟨v.f, v.b, v.k + 1⟩, ⟨rfl, rfl, λ i _ => ⟨rfl, rfl⟩⟩, ⟨⟨by show v.k + 1 <= _; omega, v3, v4⟩, v5, λ hb g hg => ?_⟩, by show x.l.length - (v.k + 1) < _; omega⟩
     by_cases e : g = v.k
     ·subst e; exact ⟨d1, d2⟩
     ·exact v6 hb g (by have : g < v.k + 1 := hg; omega)
   ·refine ⟨⟨r.f, r.b, 0⟩, ⟨rfl, λ i _ => ⟨rfl, rfl⟩⟩, ⟨r2, λ hb => ⟨r3, λ g hg => r5 hb g (by omega)⟩⟩, r4⟩
 ·obtain ⟨n1, n2⟩ := s2 hb
  obtain ⟨o1, o2, o3⟩ := BCS h s1 n1 n2
  refine ⟨o2, Nat.le_refl _, λ j hj => ?_, o1⟩
  rw [o3 j (by omega)]; exact ⟨rfl, rfl⟩
theorem AGY : AK Try.prog Vq (C_zSet.spec dZL) := XM C_zSet AYL [] [202] AKD (λ _ => by kernel_rfl) (λ _ => AA BFN (AA BEU AD)) (λ x h => BNO x h) (λ _ => YR rfl rfl) _
end Go.Bal
