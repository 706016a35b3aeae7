/- Package chart, with the reference: Stage, First. -/
import Derived.Test.YtdbjalgfomknhaaGreatChO
import Derived.Test.YtdbjalgfomknhaaGreatChZg
set_option linter.unusedVariables false
set_option linter.unusedSimpArgs false
namespace Go.Bal
open Go Go.Sym Go.Proofs
structure JoI where
 a : Span
 b : Bool
 s : Span
def joiM (x : JoI) : Span := bif x.b then ⟨KS x.a.lo x.s.lo, DP x.a.hi x.s.hi⟩ else x.s
def dJoI : List AVal -> Option JoI
 | [.d (.agg [.v (.int .i64 p), .v (.int .i64 q)]), .d (.v (.bool b)), .d (.agg [.v (.int .i64 r), .v (.int .i64 s)])] => some ⟨⟨p, q⟩, b, ⟨r, s⟩⟩
 | _ => none
def xJoI (x : JoI) : List AVal := [.d (FX x.a), .bool x.b, .d (FX x.s)]
theorem hJoI (xs : List AVal) (a : JoI) (h : dJoI xs = some a) : xs = xJoI a := by
 unfold dJoI at h; split at h <;> cases h; rfl
def BGX (x : JoI) : Prop := CL Try.prog (ann 21 []) C7 (AH C7) (xJoI x) (AB []) (.d (FX (joiM x))) [] [] []
theorem BMP (x : JoI) : (BGX x) = (DV (not (JoI.b x)) (NQ (joiM x) (JoI.s x)) (BD (joiM x) (JoI.s x)) (And (KP (joiM x) (Nm (BA (JoI.a x)) (BA (JoI.s x)))) (BF (joiM x) (WK (BI (JoI.a x)) (BI (JoI.s x)))))) := by kernel_rfl
theorem M2 (h : Hul) (s : Span) : joiM ⟨h.s, h.m, s⟩ = (WT h s).s := by
 obtain ⟨⟨a, b⟩, m⟩ := h
 obtain ⟨c, d⟩ := s
 have e1 : KS a c = KS c a := by unfold KS; split <;> split <;> omega
 have e2 : DP b d = DP d b := by unfold DP; split <;> split <;> omega
 cases m with
 | true =>
  show Span.mk (KS a c) (DP b d) = Span.mk (KS c a) (DP d b)
  rw [e1, e2]
 | false => rfl
def ARL := pD dJoI λ x => .d (FX (joiM x))
theorem ANL : AK Try.prog bH ARL := Ik xJoI hJoI λ x _ => Rc (A := ann 21 []) (ren := []) (fz := []) AOR (by kernel_rfl) AD (by
 show BGX x; rw [BMP]<;> delta BA BI AQ DX WK Nm BF BD DV KP NQ; simp only [CC, eq_self, implies_true, forall_const]; unfold joiM
 refine ⟨λ h => ?_, λ h => ?_⟩ <;> rw [h] <;> exact ⟨rfl, rfl⟩)
def zsB (x : CZI) (h : Hul) : List (Nat × HCell) := [(201, .live (oI x.a.c)), (202, .live (.box [.int 0, .int 0])), (203, .live (.box [.int h.s.lo, .int h.s.hi]))]
def zsS (x : CZI) (h : Hul) : List (Nat × AVal) := [(1, .d (JO x.a.z)), (2, .int x.t), (3, .bptr 201 0), (6, .bptr 202 0), (8, .d (DA (RS x.a))), (10, .bptr 203 0), (11, .bool h.m)]
def zs7 (x : CZI) : Shape := { α := Nat, dflt := 0, T := λ k => ⟨zsS x (bO x.a x.t k) ++ [(12, .int k)], zsB x (bO x.a x.t k)⟩, inv := λ k => k <= x.a.c.ms.length /\ DK x.a = 0, meas := λ k => x.a.c.ms.length - k, first := [(201, 1000), (202, 1016), (203, 5000)] }
def zs14 (x : CZI) : Shape := { α := Nat, dflt := 0, T := λ k => ⟨zsS x (Wk x.a x.t k) ++ [(13, .int k)], zsB x (Wk x.a x.t k)⟩, inv := λ k => (k <= x.a.c.ms.length - 1 /\ DK x.a = 0) /\ TP x.t (-100000000) 100000000 = true, meas := λ k => x.a.c.ms.length - k }
def vN (x : CZI) (k : Nat) : List Span := kW (RS x.a) ((k : Int) + 1) (wr (x.t - 1)) (wr (x.t + 1))
def zs19 (x : CZI) (m : Nat) : Shape := { α := Nat, dflt := 0, T := λ k => ⟨zsS x (Wk x.a x.t k) ++ [(13, .int k), (14, .own 204 2 0 x.a.c.ms.length)], zsB x (Wk x.a x.t k) ++ [(204, .live (.row 2 x.a.c.ms.length λ i => FX (gD (vN x k) i)))]⟩, inv := λ k => (k + 1 < x.a.c.ms.length /\ x.a.c.ms.length - k = m /\ DK x.a = 0) /\ TP x.t (-100000000) 100000000 = true, meas := λ k => 0, first := [(204, 17032)] }
def AVP (x : CZI) : Ann := { ann 119 [(kZ, C_Times.spec dCZ), (S9, AGM), (Sm, C_zst.spec dCtI), (bH, ARL), (Vq, C_zSet.spec dZL)] with mt := λ id => id == 16, loops := λ id => if id = 7 then some [zs7 x] else if id = 14 then some [zs14 x] else none, cutIn := λ gs id => if id = 19 then some [zs19 x (gs.getD 0 0)] else none }
def AVY (x : CZI) : Prop := CL Try.prog (AVP x) R9 (AH R9) (xCZI x) (AB []) (.tup [.d (FX (Jy x).1), .int (Jy x).2]) [] [] []
abbrev pR:=Jy
abbrev Gm a:=Tb (pR a)
abbrev eS a:=Hl (EL a)
abbrev Ph a b c:=JI a b (eS c)
abbrev ZY a b c d (e:Nat->Prop) f g:=Jq a b c d (AC e) f g
abbrev Nb a b c d:=Tg a (PP b) (uI c d)
abbrev Yu a b:=AC (λ i=>Rk i a b)
abbrev Pj a b:=Yu (GK a) (PP b)
abbrev My a:=BC (GK a)
abbrev aD a b:=TW a (GD b)
abbrev fE a:=Oz (EL a)
abbrev eV a:=Xf (EL a)
abbrev sL a b c:=joiM (JoI.mk a b c)
abbrev Hy a b c:=sL (Bg a) b c
abbrev Nf a b:=DG a (TB b)
abbrev rM a b:=Z7 a b (λ i=>i)
attribute [go_sem] pR Gm eS Ph ZY Nb Yu Pj My aD fE eV sL Hy Nf rM
theorem BER (x : CZI) : (AVY x) = (QQ (CW (NK x) (NJ x) (NR x) (SB x) (SM x) (BY (YC x x) (λ i=>JW i (EL x) (PP x)) (XW x x) (AC (λ i=>XX i x x i x i)) (Ih x) (Bq (EL x)) (PS (EL x)) (QJ (EL x)) (PY (EL x)))) (Eh (XI x)) (AE (Ae (Gm x)) (PJ (Gm x)) (Ad (pR x) (Eh (XI x)))) (DY (λ i=>ML (AN (eV x) (fE x) (QD x) (BY (HO (GD x) (WW (XI x))) (λ j=>MJ j (LF x) (GD x) (WW (XI x))) (EU (UZ (EQ x i))) (BR i) (NK x) (NJ x) (NR x) (SB x) (ZY (SM x) (My x) (Pj x x) (PP x) (λ j=>Nb j x x j) (Mw (EQ x i)) (Mh (EQ x i))))) i (GK x) (eS x)) (λ i=>CO (Ph i (GK x) x) i (LF x) (And (DG i (LF x)) (HL (lI (PL x) (EM (GD x) i)) (DG i (LF x)))) (DV (GH (lI (PL x) (EM (GD x) i)) (hd7 (PL x) (MX (GD x) i))) (AN (NK x) (NJ x) (NR x) (JA (PP x) (YC x x) (Eg x x) (XW x x) (λ j=>XX j x x j x j) (BW i) (Nf i (EL x)) (OO (EL x)))) (GW (λ j=>LH (AN (eV x) (fE x) (QD x) (BY (TX x) (λ k=>aD k x) (Qe (EQ x j)) (BH j i) (NK x) (NJ x) (NR x) (SB x) (ZY (SM x) (My x) (Pj x x) (PP x) (λ k=>Nb k x x k) (Fl (EQ x j) (BA (Hy (EQ x i) (UZ (EQ x i)) (QE (Bi x) i)))) (Hp (EQ x j) (Hy (EQ x i) (UZ (EQ x i)) (QE (Bi x) i)))))) j (GK x) (eS x) i)) (GW (λ j=>LH (AN (eV x) (fE x) (QD x) (BY (TX x) (λ k=>aD k x) (OS (EQ x j) (EQ x i)) (BH j i) (NK x) (NJ x) (NR x) (SB x) (ZY (SM x) (My x) (Pj x x) (PP x) (λ k=>Nb k x x k) (KZ (EQ x j) (EQ x i)) (LB (EQ x j) (EQ x i))))) j (GK x) (eS x) i))) (JM (Hn (PL x) (-100000000) 100000000) (Ae (Gm x)) (PJ (Gm x)) (Ad (pR x) 5) (DY (λ j=>AE (AN (eV x) (fE x) (QD x) (BY (TX x) (λ k=>aD k x) (OS (CB x j) (EQ x i)) (BR j) (NK x) (NJ x) (NR x) (SB x) (ZY (SM x) (My x) (Pj x x) (PP x) (λ k=>Nb k x x k) (KZ (CB x j) (EQ x i)) (LB (CB x j) (EQ x i))))) (Ph j (Lc x) x) (DI (Tm x (-100000000) 100000000))) (λ j=>BX (And (Ph j (Lc x) x) (DI (Tm x (-100000000) 100000000))) (DX (IP (CJ j) (BU (LF x))) (AN (PA (TE AI 0) (TE LG (LF x)) (MB (LF x)) (Fk (LF x)) (Ab (BB (LF x)))) (AE (DG j (LF x)) (DG j (BB (LF x))) (ME (BB j) (BB (LF x)))) (And (AE (DQ (CJ j) (LF x)) (DQ (CJ j) (BB (LF x))) (PE (CJ j) (BB (LF x)))) (GW (λ k=>AE (HP (eV x) (fE x) (QD x) (TX x) (Ip x) (OS (CB x k) (CB x j)) (IN k j) (AR AI (Jx (GK x) (LF x)) (NK x) (NJ x) (NR x) (SB x) (SM x) (My x) (DO (λ l=>Rk l (GK x) (PP x)) (DB (PP x)) (λ l=>Nb l x x l) AJ AJ (KZ (CB x k) (CB x j)) (LB (CB x k) (CB x j)) (Jx (GK x) (LF x)) (AC (λ l=>KH l (GK x) (EM (vN x k) l) (KN l (CJ j) (WK (EM (GD x) (PT j)) (WP x)) (WZ l (BB j) (EM (GD x) (RV (BB j))) (EM (GD x) (RV l)))) (LU (vN x k) l) (KN l (CJ j) (WZ (MH (CJ j)) (BB j) (Nm (MX (GD x) j) (OZ (PL x))) (MX (GD x) (RV (MH (CJ j))))) (WZ l (BB j) (Nm (MX (GD x) j) (OZ (PL x))) (MX (GD x) (RV l))))))))) (AE (CM (FK k) (GK x)) (Iq (JV (GK x) k) (GK x) j) (eS x)) (DI (Tm x (-100000000) 100000000))))) (AC (λ k=>BX (And (AE (CM (FK k) (GK x)) (Iq (JV (GK x) k) (GK x) j) (eS x)) (DI (Tm x (-100000000) 100000000))) (GN (CI (NK x) (NJ x) (NR x) (SB x) (SM x) (YC x x) (DO (λ l=>JW l (EL x) (PP x)) (XW x x) (λ l=>XX l x x l x l) (Ih x) (Bq (EL x)) (LO (rM (GK x) (vN x k)) (GK x)) (NP (GK x)) (AC (λ l=>RP l (CU (rM (GK x) (vN x k))) (rM (GK x) (vN x k)) (vN x k) (BB l) (BB l))) (PreS (hZ (XI x) (rM (GK x) (vN x k)))))) (Ox (hZ (XI x) (rM (GK x) (vN x k)))) (AE (AN (NK x) (NJ x) (NR x) (JA (PP x) (YC x x) (Eg x x) (XW x x) (λ l=>XX l x x l x l) (BW k) (Nf k (EL x)) (OO (EL x)))) (AN (NK x) (NJ x) (NR x) (JA (PP x) (YC x x) (Eg x x) (XW x x) (λ l=>XX l x x l x l) (AF (CJ k)) (DQ (CJ k) (TB (EL x))) (OO (EL x)))) (GW (λ l=>DU (AN (eV x) (fE x) (QD x) (BY (TX x) (λ m=>aD m x) (Qe (CB x l)) (BH l k) (NK x) (NJ x) (NR x) (SB x) (ZY (SM x) (My x) (Pj x x) (PP x) (λ m=>Nb m x x m) (Fl (CB x l) (BA (sL (Hy (CB x k) (UZ (CB x k)) (QE (Bi x) k)) IX (Bz (Bi x) (CJ k))))) (Hp (CB x l) (sL (Hy (CB x k) (UZ (CB x k)) (QE (Bi x) k)) IX (Bz (Bi x) (CJ k))))))) (And (Ph l (Lc x) x) (DI (Tm x (-100000000) 100000000))) (GK x) l j))) (GW (λ l=>DU (AN (eV x) (fE x) (QD x) (BY (TX x) (λ m=>aD m x) (OS (CB x l) (CB x k)) (BH l k) (NK x) (NJ x) (NR x) (SB x) (ZY (SM x) (My x) (Pj x x) (PP x) (λ m=>Nb m x x m) (KZ (CB x l) (CB x k)) (LB (CB x l) (CB x k))))) (And (Ph l (Lc x) x) (DI (Tm x (-100000000) 100000000))) (GK x) l j)))))) (JM (not (UZ (CB x j))) (Ae (Gm x)) (PJ (Gm x)) (Ad (pR x) 5) (AE (KP (Gm x) (Oo (CB x j))) (BD (Gm x) (Bg (CB x j))) (JF (Rd (pR x)))))))))))) := by kernel_rfl
theorem BEM (a b c : Int) : (bif decide (a >= b) then decide (a <= c) else false) = TP a b c := by
 unfold TP
 show (bif decide (b <= a) then _ else _) = _
 cases decide (b <= a) <;> rfl
theorem ARU {a : CZ} (hr : DK a = 0) {t : Int} (ht : TP t (-100000000) 100000000 = false) : ∀ k, k <= a.c.ms.length -> bO a t k = zHul
 | 0, _ => rfl
 | k + 1, hk => by
  have hc := PX.1 (SR hr).1
  have b := ARP hc hr (i := k) (by omega)
  unfold dC at b
  have : TP t (gD (RS a) k).lo (gD (RS a) k).hi = false := by
   cases q : TP t (gD (RS a) k).lo (gD (RS a) k).hi with
   | false => rfl
   | true =>
    have := MV.1 q
    rw [MV.2 (by omega)] at ht; cases ht
  show (bif TP t _ _ then _ else bO a t k) = _
  rw [this]; exact ARU hr ht k (by omega)
theorem ARJ (x : CZI) (k : Nat) : (vN x k).length = (RS x.a).length := cI _ _ _ _
theorem BFS {x : CZI} (hr : DK x.a = 0) (zl : x.a.z.length < 4611686018427387904) (ht : TP x.t (-100000000) 100000000 = true) {k : Nat} (hk : k + 1 < x.a.c.ms.length) : PreS ⟨x.a, vN x k⟩ := by
 have hc := PX.1 (SR hr).1
 have tl := Wm hr
 have ht := MV.1 ht
 have at_ : ∀ i, i < x.a.c.ms.length -> gD (vN x k) i = ⟨bif decide (i = k + 1) then DP (gD (RS x.a) i).lo (x.t + 1) else (gD (RS x.a) i).lo, bif decide (i = k) then KS (gD (RS x.a) i).hi (x.t - 1) else (gD (RS x.a) i).hi⟩ := λ i hi => by
  unfold vN wr
  rw [Dh (by omega) (by omega), Dh (by omega) (by omega)]
  exact AVX (by omega) (by omega)
 have bb : ∀ i, i < x.a.c.ms.length -> (-100000000 <= (gD (vN x k) i).lo /\ (gD (vN x k) i).lo <= 100000001) /\ -100000001 <= (gD (vN x k) i).hi /\ (gD (vN x k) i).hi <= 100000000 := λ i hi => by
  have b := ARP hc hr hi
  unfold dC at b
  rw [at_ i hi]
  constructor
  ·show -100000000 <= (bif decide (i = k + 1) then DP (gD (RS x.a) i).lo (x.t + 1) else (gD (RS x.a) i).lo) /\ (bif decide (i = k + 1) then DP (gD (RS x.a) i).lo (x.t + 1) else (gD (RS x.a) i).lo) <= _
   cases decide (i = k + 1)
   ·show _ <= (gD (RS x.a) i).lo /\ (gD (RS x.a) i).lo <= _; omega
   ·show _ <= DP _ _ /\ DP _ _ <= _; unfold DP; split <;> omega
  ·show -100000001 <= (bif decide (i = k) then KS (gD (RS x.a) i).hi (x.t - 1) else (gD (RS x.a) i).hi) /\ (bif decide (i = k) then KS (gD (RS x.a) i).hi (x.t - 1) else (gD (RS x.a) i).hi) <= _
   cases decide (i = k)
   ·show _ <= (gD (RS x.a) i).hi /\ (gD (RS x.a) i).hi <= _; omega
   ·show _ <= KS _ _ /\ KS _ _ <= _; unfold KS; split <;> omega
 have hl : (vN x k).length = x.a.c.ms.length := by rw [ARJ, tl]
 exact ⟨(SR hr).1, (SR hr).2.1, zl, hl, λ i hi => by
  have hi : i < (vN x k).length := hi
  have := bb i (by omega); unfold dC; show (_ <= (gD (vN x k) i).lo /\ (gD (vN x k) i).lo <= _) /\ _ <= (gD (vN x k) i).hi /\ (gD (vN x k) i).hi <= _; omega, λ i hi => by
  have hi : i < (vN x k).length := hi
  have := bb i (by omega); show _ <= (gD (vN x k) i).lo /\ (gD (vN x k) i).hi <= _; omega⟩
theorem AYD (x : ZL) : (Wl x).2 = (YW (GX x.a) x.l).all Fa := by
 unfold Wl; cases (YW (GX x.a) x.l).all Fa <;> rfl
theorem AXW {l : List Span} {n : Nat} (h : l.length = n) : (QR n λ i => gD l i) = l := by
 subst h
 exact ANJ (rng_length _ _) λ i hi => IK _ _ _ (by simpa using hi)
theorem BMJ (x : CZI) (h : x.a.c.ms.length < 4611686018427387904 /\ x.a.c.ns.length < 4611686018427387904 /\ x.a.z.length < 4611686018427387904) : AVY x := by
 rw [BER]<;> delta KY lI hd7 Aq BA BI FW OH PR Cs EX FI CE CU AC BX CM AQ LU BU WF DH DX IP HD LS PG WK Nm JV ER GP GA HQ HT HC HR DS GB ED GW LG Ak IX HV QT TU LL YY BV BQ Uc FT SA NM Bz Vc Dd UZ Bg Tb Rd EL PL vE G6 hZ pR AE BG AW EO GJ GI AG SV GM NV BF BE UR CK AR VB CN BD AF CG BC J1 AO CQ BS CV Dc JL CY BO HK CR AL ZB Ao QX Bc Cl CF AM AT DR DZ GF GG BB DW AS EG FC PP Db AP FG DC DB CS HW FV TB GR FZ KU FK HA GD FU EM KG FE ET CJ GQ AN BY NY FY FJ EV EJ KD DI Hh MH uI MF OZ WZ FL HY AI HH LR OK GK LV Df JG BH HL JI ZC OM JF JP ZD NO DV Oo JZ DQ MT DG PN Rk LX EK CW MG QV Bf IN LO KE MD IS KC MU HG EU HX ME Iq DU CB GZ LI TW AJ IY SS QE OC PF CI UE PU PC PT BR BW SU KP Dx RT GH IZ VG FP Hl TI GN Fl CO Hp MB DY Xf LF HP EQ RP NL MJ VE DO QC MX OP HO TE LB KZ XY KN NR JA JR NP QM JW Ui NK XV PE JM Z7 OO QD OS PY XI QJ SC PJ Hn SB LJ Tg NJ PS KH WY TX WW SM eS UN Oz RN ZX LH RV ML Bi Gm Ae Ad Eh rM Jq Yu YC PA QQ sL XW My Ab WP ZY Hy Nf Pj Ip Bq Eg Lc XX Nb Ph Jx fE Ih Ox eV Tm aD Mh Mw Qe Fk; simp only [CC, eq_self, implies_true, forall_const, DN, Cg, ALU]
 refine ⟨h, λ h1 => ?_, λ h1 => ?_⟩
 ·have hn : (DK x.a == 0) = false := by simpa using h1
  unfold Jy; rw [hn]; exact ⟨rfl, rfl, rfl⟩
 have h0 : DK x.a = 0 := by simpa using h1
 have c0 := (SR h0).1
 obtain ⟨m1, m2⟩ := (PX.1 c0).m
 have tl := Wm h0
 have ev : Jy x = Gb (aU x) := by unfold Jy; rw [h0]; rfl
 rw [AEU h0]
 simp only [CC, eq_self, implies_true, forall_const, tl, BEM, M2, ev]
 refine ⟨⟨0, ⟨rfl, rfl, rfl, rfl⟩, Nat.zero_le _, h0⟩, λ k ⟨k1, _⟩ => ⟨λ hlt => ⟨⟨by omega, λ _ => by omega⟩, λ hc => ⟨⟨by omega, c0⟩, k + 1, ?_, ⟨by omega, h0⟩, by omega⟩, λ hc => ⟨k + 1, ?_, ⟨by omega, h0⟩, by omega⟩⟩, λ hge => ⟨λ ho => ?_, λ hi => ⟨⟨0, ?_, ⟨by omega, h0⟩, hi⟩, λ g ⟨⟨g1, _⟩, _⟩ => ?_⟩⟩⟩⟩
 ·have e : bO x.a x.t (k + 1) = WT (bO x.a x.t k) (QF x.a.c k) := by
   show (bif TP x.t _ _ then WT _ (gD (WG x.a.c) k) else _) = _
   rw [hc, Ey (by omega)]; rfl
  rw [e]; exact ⟨rfl, (FH (by omega)).symm, rfl, rfl⟩
 ·have e : bO x.a x.t (k + 1) = bO x.a x.t k := by
   show (bif TP x.t _ _ then WT _ (gD (WG x.a.c) k) else _) = _
   rw [hc]; rfl
  rw [e]; exact ⟨rfl, (FH (by omega)).symm, rfl, rfl⟩
 ·have e : Gb (aU x) = (⟨0, 0⟩, 5) := by
   unfold aU; rw [ho]
   show Gb (bO x.a x.t x.a.c.ms.length) = _
   rw [ARU h0 ho _ (Nat.le_refl _)]; rfl
  rw [e]; exact ⟨rfl, rfl, rfl⟩
 ·obtain rfl : k = x.a.c.ms.length := by omega
  exact ⟨rfl, rfl, rfl, rfl⟩
 have ew : IntKind.i64.wrap ((g : Int) + 1) = ((g + 1 : Nat) : Int) := FH (by omega)
 simp only [ew, Int.toNat_natCast, Nat.sub_zero]
 refine ⟨λ hlt => ⟨⟨(λ h => by cases h), by omega, by omega⟩, ⟨by omega, by omega, by omega⟩, ⟨⟨by omega, by omega, by omega⟩, g, ⟨rfl, rfl, rfl, rfl, λ i hi2 => ?_⟩, ⟨by omega, rfl, h0⟩, hi⟩, λ j ⟨⟨j1, j2, _⟩, _⟩ => ?_⟩, λ hge2 => ?_⟩
 ·have e : gD (vN x g) i = ⟨bif decide (i = g + 1) then DP (gD (RS x.a) i).lo (wr (x.t + 1)) else (gD (RS x.a) i).lo, bif decide (i = g) then KS (gD (RS x.a) i).hi (wr (x.t - 1)) else (gD (RS x.a) i).hi⟩ := AVX (by omega) (by omega)
  rw [e]
  by_cases q1 : i = g + 1
  ·subst q1
   simp [wr]
  ·by_cases q2 : i = g
   ·subst q2
    simp [wr]
   ·simp [q1, q2]
 ·have hL : (vN x j).length = x.a.c.ms.length := by rw [ARJ, tl]
  have ej : IntKind.i64.wrap ((j : Int) + 1) = ((j + 1 : Nat) : Int) := FH (by omega)
  have ep : (Wl ⟨x.a, vN x j⟩).2 = tS x.a x.t j := by rw [AYD]; rfl
  simp only [AXW hL, ej, ep]
  refine ⟨⟨by omega, λ _ _ => ⟨trivial, trivial⟩, BFS h0 h.2.2 hi j1⟩, λ hp => ⟨⟨by omega, c0⟩, ⟨by omega, c0⟩, j + 1, ?_, ⟨⟨by omega, h0⟩, hi⟩, by omega⟩, λ hp => ⟨j + 1, ?_, ⟨⟨by omega, h0⟩, hi⟩, by omega⟩⟩
  ·have e : Wk x.a x.t (j + 1) = WT (WT (Wk x.a x.t j) (QF x.a.c j)) (QF x.a.c ((j + 1 : Nat) : Int)) := by
    show (bif tS x.a x.t j then WT (WT _ (gD (WG x.a.c) j)) (gD (WG x.a.c) (j + 1)) else _) = _
    rw [hp, Ey (by omega), Ey (by omega)]; rfl
   rw [e]
   have e2 : ∀ s : Span, joiM ⟨(WT (Wk x.a x.t j) (QF x.a.c j)).s, true, s⟩ = (WT (WT (Wk x.a x.t j) (QF x.a.c j)) s).s := λ s => M2 (WT (Wk x.a x.t j) (QF x.a.c j)) s
   rw [e2]; exact ⟨rfl, rfl, rfl, rfl⟩
  ·have e : Wk x.a x.t (j + 1) = Wk x.a x.t j := by
    show (bif tS x.a x.t j then WT (WT _ (gD (WG x.a.c) j)) (gD (WG x.a.c) (j + 1)) else _) = _
    rw [hp]; rfl
   rw [e]; exact ⟨rfl, rfl, rfl, rfl⟩
 ·obtain rfl : g = x.a.c.ms.length - 1 := by omega
  have e : aU x = Wk x.a x.t (x.a.c.ms.length - 1) := by unfold aU; rw [hi]; rfl
  rw [e]; unfold Gb
  refine ⟨λ q => ?_, λ q => ?_⟩ <;> rw [q] <;> exact ⟨rfl, rfl, rfl⟩
theorem BDU : AK Try.prog Y2 (C_Stage.spec dCZI) := XM C_Stage AVP [] [] ATJ (λ _ => by kernel_rfl) (λ _ => AA AHC (AA AGL (AA AHT (AA ANL (AA AGY AD))))) (λ x h => BMJ x h) (λ _ => YR rfl rfl) _
def zf7 (x : CZI) : Shape := { α := Nat, dflt := 0, T := λ k => ⟨[(2, .int x.t), (3, .bptr 201 0), (6, .bptr 202 0), (9, .d (DA (RS x.a))), (11, .bptr 203 0), (12, .bool (Ov x k).1.m), (13, .int k)], zsB x (Ov x k).1⟩, inv := λ k => (k <= x.a.c.ms.length /\ DK x.a = 0) /\ (Ov x k).2 = false, meas := λ k => x.a.c.ms.length - k, first := [(201, 1000), (202, 1016), (203, 5000)] }
def BAA (x : CZI) : Ann := { ann 54 [(kZ, C_Times.spec dCZ), (Sm, C_zst.spec dCtI), (bH, ARL)] with loops := λ id => if id = 7 then some [zf7 x] else none }
def BBM (x : CZI) : Prop := CL Try.prog (BAA x) W7 (AH W7) (xCZI x) (AB []) (.tup [.d (FX (ZN x).s), .bool (ZN x).b, .int (ZN x).e]) [] [] []
abbrev cC:=ZN
abbrev Yg a:=FsR.s (cC a)
attribute [go_sem] cC Yg
theorem BGF (x : CZI) : (BBM x) = (QQ (CW (NK x) (NJ x) (NR x) (SB x) (SM x) (BY (YC x x) (λ i=>JW i (EL x) (PP x)) (XW x x) (AC (λ i=>XX i x x i x i)) (Ih x) (Bq (EL x)) (PS (EL x)) (QJ (EL x)) (PY (EL x)))) (Eh (XI x)) (AN (Ae (Yg x)) (PJ (Yg x)) (EU (Us (cC x))) (AQ (Wf (cC x)) (Eh (XI x)))) (DY (λ i=>AE (And (QD x) (BY (HO (GD x) (WW (XI x))) (λ j=>MJ j (LF x) (GD x) (WW (XI x))) (EU (Il x i)) (BR i) (NK x) (NJ x) (NR x) (SB x) (ZY (SM x) (My x) (Pj x x) (PP x) (λ j=>Nb j x x j) (Mw (MP x i)) (Mh (MP x i))))) (Ph i (GK x) x) (EU (Ng x i))) (λ i=>CO (And (Ph i (GK x) x) (EU (Ng x i))) i (LF x) (AN (NK x) (NJ x) (NR x) (JA (PP x) (YC x x) (Eg x x) (XW x x) (λ j=>XX j x x j x j) (BW i) (Nf i (EL x)) (OO (EL x)))) (DX (IP (BI (QE (Bi x) i)) (PL x)) (GW (λ j=>DU (And (QD x) (BY (TX x) (λ k=>aD k x) (OS (MP x j) (MP x i)) (BH j i) (NK x) (NJ x) (NR x) (SB x) (ZY (SM x) (My x) (Pj x x) (PP x) (λ k=>Nb k x x k) (KZ (MP x j) (MP x i)) (LB (MP x j) (MP x i))))) (And (Ph j (GK x) x) (EU (Ng x j))) (GK x) j i)) (AE (DG i (LF x)) (AN (NK x) (NJ x) (NR x) (JA (PP x) (YC x x) (Eg x x) (XW x x) (λ j=>XX j x x j x j) (BW i) (Nf i (EL x)) (OO (EL x)))) (PB (lI (Dq (Bi x) i) (PL x)) (AN (NQ (Yg x) (Hy (MP x i) (Il x i) (LU (GD x) i))) (BD (Yg x) (Hy (MP x i) (Il x i) (LU (GD x) i))) (DI (Us (cC x))) (JF (Wf (cC x)))) (λ j=>DU (And (QD x) (BY (TX x) (λ k=>aD k x) (DI (Il x j)) (BH j i) (NK x) (NJ x) (NR x) (SB x) (ZY (SM x) (My x) (Pj x x) (PP x) (λ k=>Nb k x x k) (Fl (MP x j) (BA (Hy (MP x i) (Il x i) (LU (GD x) i)))) (Hp (MP x j) (Hy (MP x i) (Il x i) (LU (GD x) i)))))) (And (Ph j (GK x) x) (EU (Ng x j))) (GK x) j i)))) (DX (not (Il x i)) (AN (Ae (Yg x)) (PJ (Yg x)) (EU (Us (cC x))) (AQ (Wf (cC x)) 5)) (AN (KP (Yg x) (Oo (MP x i))) (BD (Yg x) (Bg (MP x i))) (EU (Us (cC x))) (JF (Wf (cC x)))))))) := by kernel_rfl
theorem AJG (x : CZI) (k : Nat) (h : (Ov x k).2 = false) : Ov x (k + 1) = bif decide ((gD (WG x.a.c) k).hi >= x.t) then (WT (Ov x k).1 (gD (RS x.a) k), decide ((gD (WG x.a.c) k).lo >= x.t)) else Ov x k := by
 show (bif (Ov x k).2 then _ else _) = _
 rw [h]; rfl
theorem AJL (x : CZI) {k : Nat} (h : (Ov x k).2 = true) : ∀ n, k <= n -> Ov x n = Ov x k
 | 0, hn => by
  obtain rfl : k = 0 := by omega
  rfl
 | n + 1, hn => by
  by_cases e : k = n + 1
  ·subst e; rfl
  ·have ih := AJL x h n (by omega)
   show (bif (Ov x n).2 then Ov x n else _) = _
   rw [ih, h]; rfl
theorem BNG (x : CZI) (h : x.a.c.ms.length < 4611686018427387904 /\ x.a.c.ns.length < 4611686018427387904 /\ x.a.z.length < 4611686018427387904) : BBM x := by
 rw [BGF]<;> delta KY lI Aq BA BI FW OH PR EX FI CE CU AC BX CM AQ LU BU WF DH DX IP HD LS PG JV ER GP GA HQ HT HC HR DS GB ED GW IX TU BV BQ FT SA NM Bz Dd UZ Bg EL PL Us Wf vE G6 cC AE BG AW EO GJ GI AG SV GM NV BF BE UR CK AR VB CN BD AF CG BC J1 AO CQ BS CV Dc JL CY BO HK CR AL ZB Ao QX Bc Cl CF AM AT DR DZ GF GG DW AS EG FC PP Db AP FG DC DB CS HW FV TB GR FZ HA GD FU EM KG FE ET CJ GQ AN BY NY FY FJ EV EJ KD DI Hh uI MF FL HY HH LR OK GK LV Df JG BH JI ZC OM JF JP ZD NO DV Oo JZ MT DG PN Rk LX EK CW MG QV LO KE MD IS KC MU MP HG EU HX DU GZ LI TW AJ QE OC PF UE PU BR BW SU KP RT FP Hl TI GN Fl CO Hp DY LF RP NL MJ VE QC OP HO LB KZ NR NQ JA JR QM JW NK OO QD OS PY XI QJ PJ SB LJ Tg NJ PS TX WW SM eS UN RN Bi PB Ae Eh Jq Yu YC QQ sL Il XW My Ng Dq ZY Hy Nf Pj Yg Bq Eg XX Nb Ph Ih aD Mh Mw; simp only [CC, eq_self, implies_true, forall_const, DN, Cg, ALU]
 refine ⟨h, λ h1 => ?_, λ h1 => ?_⟩
 ·have hn : (DK x.a == 0) = false := by simpa using h1
  unfold ZN; rw [hn]; exact ⟨rfl, rfl, rfl, rfl⟩
 have h0 : DK x.a = 0 := by simpa using h1
 have c0 := (SR h0).1
 obtain ⟨m1, m2⟩ := (PX.1 c0).m
 have tl := Wm h0
 have ev : ZN x = fsV x := by unfold ZN; rw [h0]; rfl
 rw [AEU h0]
 simp only [CC, eq_self, implies_true, forall_const, tl, M2, ev]
 refine ⟨⟨0, ⟨rfl, rfl, rfl, rfl⟩, ⟨Nat.zero_le _, h0⟩, rfl⟩, λ k ⟨⟨k1, _⟩, k2⟩ => ⟨λ hlt => ⟨⟨by omega, c0⟩, λ hc => ⟨k + 1, ?_, ⟨⟨by omega, h0⟩, ?_⟩, by omega⟩, λ hc => ⟨by omega, ⟨by omega, c0⟩, λ hd => ?_, λ hd => ⟨k + 1, ?_, ⟨⟨by omega, h0⟩, ?_⟩, by omega⟩⟩⟩, λ hge => ?_⟩⟩
 ·have e : Ov x (k + 1) = Ov x k := by rw [AJG x k k2, Ey (by omega), decide_eq_false (by omega)]; rfl
  rw [e]; exact ⟨rfl, (FH (by omega)).symm, rfl, rfl⟩
 ·have e : Ov x (k + 1) = Ov x k := by rw [AJG x k k2, Ey (by omega), decide_eq_false (by omega)]; rfl
  rw [e]; exact k2
 ·have e : Ov x (k + 1) = (WT (Ov x k).1 (gD (RS x.a) k), true) := by
   rw [AJG x k k2, Ey (by omega), decide_eq_true (show (QF x.a.c k).hi >= x.t by omega), decide_eq_true hd]; rfl
  have e2 : Ov x x.a.c.ms.length = Ov x (k + 1) := AJL x (by rw [e]) _ (by omega)
  unfold fsV; rw [e2, e]; exact ⟨rfl, rfl, rfl, rfl⟩
 ·have e : Ov x (k + 1) = (WT (Ov x k).1 (gD (RS x.a) k), false) := by
   rw [AJG x k k2, Ey (by omega), decide_eq_true (show (QF x.a.c k).hi >= x.t by omega), decide_eq_false hd]; rfl
  rw [e]; exact ⟨rfl, (FH (by omega)).symm, rfl, rfl⟩
 ·have e : Ov x (k + 1) = (WT (Ov x k).1 (gD (RS x.a) k), false) := by
   rw [AJG x k k2, Ey (by omega), decide_eq_true (show (QF x.a.c k).hi >= x.t by omega), decide_eq_false hd]; rfl
  rw [e]
 ·obtain rfl : k = x.a.c.ms.length := by omega
  unfold fsV Gb; rw [k2]
  refine ⟨λ q => ?_, λ q => ?_⟩ <;> rw [q] <;> exact ⟨rfl, rfl, rfl, rfl⟩
theorem BFW : AK Try.prog Y5 (C_First.spec dCZI) := XM C_First BAA [] [] ATE (λ _ => by kernel_rfl) (λ _ => AA AHC (AA AHT (AA ANL AD))) (λ x h => BNG x h) (λ _ => YR rfl rfl) _
end Go.Bal
