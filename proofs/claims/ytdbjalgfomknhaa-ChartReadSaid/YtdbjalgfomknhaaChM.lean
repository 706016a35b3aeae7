/- Package chart: Holds. -/
import Derived.Test.YtdbjalgfomknhaaChL
import Derived.Test.YtdbjalgfomknhaaChW
set_option linter.unusedVariables false
set_option linter.unusedSimpArgs false
namespace Go.Bal
open Go Go.Sym Go.Proofs
structure CT where
 c : Cht
 t : Tru
def BVS : AVal -> Heap -> Option (Tru × List Nat)
 | .d (.agg [.list _ n f _, .list _ m g _, .list _ k h _]), _ => some (⟨OF n λ i => FQ (f i), OF m λ i => FQ (g i), OF k λ i => FQ (h i)⟩, [])
 | .agg [x, y, z], H => match AEB x H, AEB y H, AEB z H with
  | some (l, f1), some (m, f2), some (k, f3) => some (⟨l, m, k⟩, f1 ++ f2 ++ f3)
  | _, _, _ => none
 | _, _ => none
def dCT : List AVal -> Heap -> Option (CT × List (Nat × Nat) × List Nat)
 | [x, y], H => match AIZ x H, BVS y H with
  | some (c, f), some (t, e) => some (⟨c, t⟩, [], f ++ e)
  | _, _ => none
 | _, _ => none
def xCT (x : CT) : List AVal := [.d (aK x.c), .d (eTru x.t)]
def ctZ (x : CT) : CZ := ⟨x.c, x.t.z⟩
def hd1 (x : CT) (i : Nat) : Bool := TM (gD x.t.t i) (gD (Kb x.c) i).lo (gD (Kb x.c) i).hi && TM (gD x.t.s i) (Qr x.c i).lo (Qr x.c i).hi
def hdN (x : CT) : Nat -> Bool
 | 0 => true
 | k + 1 => hdN x k && hd1 x k
def hg1 (x : CT) (g : Nat) : Bool := TM (wr (gD x.t.t (g + 1) - gD x.t.t g)) (SS (JB (ctZ x)) g).lo (SS (JB (ctZ x)) g).hi
def hgN (x : CT) : Nat -> Bool
 | 0 => true
 | k + 1 => hgN x k && hg1 x k
def inT (l : List Int) : Bool := l.all λ a => TM a (-100000000) 100000000
def hldO (x : CT) : Bool × Int := bif decide (x.t.t.length = x.c.ms.length /\ x.t.s.length = x.c.ms.length) then bif inT x.t.t then (hdN x x.c.ms.length && hgN x (x.c.ms.length - 1), 0) else (false, 4) else (false, 2)
def Ox (x : CT) : Bool × Int := bif Na (ctZ x) == 0 then hldO x else (false, Na (ctZ x))
def C_hold : Ctr := { α := CT, xs := xCT, val := λ x => .tup [.bool (Ox x).1, .int (Ox x).2], keep := λ _ => [], pre := λ x => [(x.c.ms.length < 4611686018427387904 /\ x.c.ns.length < 4611686018427387904 /\ x.t.z.length < 4611686018427387904) /\ x.t.t.length < 4611686018427387904 /\ x.t.s.length < 4611686018427387904] }
def hdH (x : CT) : List (Nat × HCell) := [(201, .live (.box [.d (IN x.t.t), .d (IN x.t.s), .d (IN x.t.z)])), (202, .live (.box [.d (.v (.bool false))])), (203, .live (.box [.d (.v (.int .i64 0))])), (204, .live (dkB (JB (ctZ x)) 205)), (205, .live (dkM (JB (ctZ x))))]
def hdS : List (Nat × AVal) := [(3, .bptr 201 0), (4, .bptr 202 0), (5, .bptr 203 0), (6, .bptr 204 0)]
def hd11 (x : CT) : Shape := { α := Nat, dflt := 0, T := λ k => ⟨hdS ++ [(9, .d (CK (Kb x.c))), (48, .int x.c.ms.length), (49, .int k)], hdH x⟩, inv := λ k => k <= x.c.ms.length /\ hdN x k = true, meas := λ k => x.c.ms.length - k, first := [(201, 1016), (202, 1032), (203, 1048), (204, 2048), (205, 2049)] }
def hgS (x : CT) (l k : Nat) : List (Nat × AVal) := [(0, .fn (.yield l) [] []), (1, .bptr 18016 0), (12, .int (wr ((x.c.ms.length : Int) - 1))), (13, .int k)]
def hg1s (x : CT) (l : Nat) : Shape := { α := Nat, dflt := 0, T := λ k => ⟨hgS x l k, hdH x ++ [(18016, .live (.box [.bptr 204 0]))]⟩, inv := λ k => k <= x.c.ms.length - 1 /\ hgN x k = true, meas := λ k => 50 - k }
noncomputable def BNQ (x : CT) : IterAnn := { fn := dX, code := AL dX, live := [3, 4, 5], ann := { base := λ id => 100000 + 1000 * (id + 1), Γ := Sym.look [], E := [201, 202, 203, 204, 205, 18016], n := 66, inner := λ gs id => if id = 1 then some [hg1s x (gs.getD 0 0)] else none } }
noncomputable def BAL (x : CT) : Ann := { ann 108 [(gC, C_beg.spec dCZ), (n_eI, C4Ih.spec d4Ih), (ACT, C_not.spec D6), (L2, C_stg.spec dDkI), (N8, s_in), (AIC, C_gaps.spec D6)] with iter := λ g => if g = We then some (BNQ x) else none, loops := λ id => if id = 11 then some [hd11 x] else none }
def BET (x : CT) : Prop := CR Try.prog (BAL x) K7 (AL K7) (xCT x) (AE []) (.tup [.bool (Ox x).1, .int (Ox x).2]) [] [] []
abbrev FD:=CT.c
abbrev Rz a:=(@Prod.snd Bool Int) (Ox a)
abbrev P6 a:=(@Prod.fst Bool Int) (Ox a)
abbrev Jn a:=UI (ctZ a)
abbrev Yi a b:=fO a (ctZ b)
abbrev BY a:=FJ (ctZ a)
abbrev YW a:=Tru.z (CT.t a)
abbrev XU a:=Tru.s (CT.t a)
abbrev QC a:=Tru.t (CT.t a)
abbrev jG a:=EX (P6 a)
abbrev Sf a:=Kb (FD a)
abbrev Io a b:=HQ (not a) b
abbrev AEH a:=DG (FD a)
abbrev JG a:=ACL (AEH a) (YW a)
abbrev Km a b:=Hc (AEH a) (YW b)
attribute [go_sem] FD Rz P6 Jn Yi BY YW XU QC jG Sf Io AEH JG Km
theorem BLP (x : CT) : (BET x) = (JR (AT (FD x)) (AW (FD x)) (AV (FD x)) (BA (FD x)) (FM (BB (FD x)) (BF (FD x)) (BM (FD x)) (CA (FD x)) (λ i=>BC i (FD x) (BG (FD x) i) (BD (FD x) i) (AP (FD x) i) (AZ (FD x) i) (AO (FD x) i) (BE (FD x) i) (AM (FD x) i)) (NX (YW x)) (λ i=>JL i (EQ (YW x)) (YW x)) (UV (FD x) (NF (FD x)) (UA (YW x))) (EV (VO (AEH x)))) (DH (IE (XJ (Km x x))) (jG x) (AS (Rz x) (XJ (Km x x))) (DH (SZ (PX (MJ (QC x)) (ND (FD x))) (PX (MJ (XU x)) (ND (FD x)))) (jG x) (AS (Rz x) 2) (NM (NX (QC x)) (VE (QC x)) (UA (QC x)) II (DH (not (hd92 (EQ (QC x)) (λ i=>TM i (-100000000) 100000000))) (jG x) (AS (Rz x) 4) (WJ (GH (AT (JG x)) (AW (JG x)) (AV (JG x)) (BA (JG x)) (BB (JG x)) (BF (JG x)) (NY (JG x) (λ i=>BC i (JG x) (BG (JG x) i) (BD (JG x) i) (AP (JG x) i) (AZ (JG x) i) (AO (JG x) i) (BE (JG x) i) (AM (JG x) i)) (AF (λ i=>fO i (Km x x))) BI (EN (JG x)) (HB (UI (Km x x))) (EM (JG x)) (RV (JG x) (AN (EJ (JG x)) (AF (λ i=>fO i (Km x x))) BI (EY (JG x)) (HB (UI (Km x x))) (GC (JG x)) (QO (JG x)) (MD (JG x)) (DF (λ i=>HQ (WX (JG x) i) (CS i (ED (JG x))))))))) (IF (λ i=>NK (HT (Sf x) (Kb (DG (JG x)))) (FM (AF (λ j=>TE j (Sf x) j (Kb (DG (JG x))))) (RD (FD x)) (CY i) (JQ (QC x)) (λ j=>OO j (QC x)) (JQ (XU x)) (λ j=>OO j (XU x)) (JQ (YW x)) (AN (NV (YW x)) Cy CU (RZ (BY x) (JG x)) (SH (BY x) (JG x)) (SC (BY x) (JG x)) (RG (BY x) (JG x)) (RR (BY x) (JG x)) (LI (RL (BY x) (JG x)) (λ j=>RQ j (BY x) (RF (BY x) j (JG x) j) j (JG x) j) (SB (BY x) (JG x)) (λ j=>EP j (BY x) (SK (SF (BY x) j (JG x) j) (BY x) j (AP (JG x) j) j (AO (JG x) j) (AM (JG x) j))) (λ j=>XH j (ID (Jn x) j) (ID (UI (Km x x)) j)) BI (DF (λ j=>UX (BY x) j (JG x) j)) (λ j=>VD (Jn x) j (UI (Km x x)) j) (λ j=>VF (KB (BY x) j) (JG x) j (KU (BY x) j) (BY x) j)))) (CW i (BV (FD x))) (EK (hdN x i)))) (λ i=>SE (CW i (BV (FD x))) (EK (hdN x i)) (EZ (IM i (ND (FD x))) (JE (GH (GX i) (AT (BY x)) (AW (BY x)) (AV (BY x)) (BA (BY x)) (BB (BY x)) (KO (BF (BY x)) (λ j=>CE j (BY x)) (CA (BY x)) (λ j=>BC j (BY x) (BG (BY x) j) (BD (BY x) j) (AP (BY x) j) (AZ (BY x) j) (AO (BY x) j) (BE (BY x) j) (AM (BY x) j)) (λ j=>Yi j x) BI (EN (BY x)) (λ j=>JY (Jn x) j) (AN (EM (BY x)) (AT (BY x)) (AW (BY x)) (AV (BY x)) (BA (BY x)) (BB (BY x)) (DQ (BY x)) (FI (BY x)) (NN (DK (BY x)) (EJ (BY x)) (λ j=>Yi j x) (EY (BY x)) (Jn x) (GC (BY x)) (CX (CG i)) (FZ (CG i) (ED (BY x))))))) (KG i (QC x)) (ZT (JA i (Sf x)) (Io (not (Rs (QC x) i (PO (Sf x) i) (LU (Sf x) i))) (KG i (XU x)))) (DH (SZ (not (Rs (QC x) i (PO (Sf x) i) (LU (Sf x) i))) (not (Rs (XU x) i (CI (sA (DG (BY x)) i)) (CH (sA (DG (BY x)) i))))) (jG x) (EV (Rz x)) (IF (λ j=>FW (And (IC (Sf x)) (FM (LL (Sf x)) (RD (FD x)) (CJ j i) (JQ (QC x)) (λ k=>OO k (QC x)) (JQ (XU x)) (λ k=>OO k (XU x)) (JQ (YW x)) (DP (NV (YW x)) Cy CU (BY x) (λ k=>Yi k x) (Jn x)))) (CW j (BV (FD x))) (EK (hdN x j)) (BV (FD x)) j i)))) (BH (AT (BY x)) (AW (BY x)) (AV (BY x)) (FX (BA (BY x)) (BB (BY x)) (BF (BY x)) (BM (BY x)) (CA (BY x)) (AF (λ j=>BC j (BY x) (BG (BY x) j) (BD (BY x) j) (AP (BY x) j) (AZ (BY x) j) (AO (BY x) j) (BE (BY x) j) (AM (BY x) j))) (λ j=>Yi j x) BI (JO (EN (BY x)) (HB (Jn x)) (EM (BY x)) (BY x) (LI (DQ (BY x)) (λ j=>DT j (BY x)) (DK (BY x)) (λ j=>DX j (BY x)) (λ j=>Yi j x) BI (EY (BY x)) (λ j=>JY (Jn x) j) (λ j=>TZ (BY x) j))))) (AF (λ j=>NL (λ k=>AH (FM (XY j) (AS (wr (Ij (FD x))) (JJ (ND (BY x)))) (CY k) (JQ (QC x)) (λ l=>OO l (QC x)) (JQ (XU x)) (λ l=>OO l (XU x)) (JQ (YW x)) (DP (NV (YW x)) Cy CU (BY x) (λ l=>Yi l x) (Jn x))) (Nc k (FD x)) (EK (hgN x k))) (λ k=>SE (Nc k (FD x)) (EK (hgN x k)) (EZ (IM k (wr (Ij (FD x)))) (BH (MR (CS (EH k) (BV (BY x))) (CG k) (BV (BY x))) (IW k 40) (OU k 40) (FG (ID (Jn x) k) (AH (BU j) (Al (TV (EH k) (QC x)) (CG k) (QC x)) (DH (not (TM (KP (ET (QC x) (UK k)) (ET (QC x) k)) (Gc (CI (GG (BY x))) (Ns (BY x) k) (BY x) k) 200000000)) (jG x) (EV (Rz x)) (IF (λ l=>FW (FM (XY j) (Gl (Ij (FD x))) (CJ l k) (JQ (QC x)) (λ m=>OO m (QC x)) (JQ (XU x)) (λ m=>OO m (XU x)) (JQ (YW x)) (DP (NV (YW x)) Cy CU (BY x) (λ m=>Yi m x) (Jn x))) (Nc l (FD x)) (EK (hgN x l)) 50 l k)))) (AH (BU j) (Al (TV (EH k) (QC x)) (CG k) (QC x)) (DH (not (TM (KP (ET (QC x) (UK k)) (ET (QC x) k)) (Gc (CI (GG (BY x))) (Ns (BY x) k) (BY x) k) (Gc (CH (GG (BY x))) (Ns (BY x) k) (BY x) k))) (jG x) (EV (Rz x)) (IF (λ l=>FW (FM (XY j) (Gl (Ij (FD x))) (CJ l k) (JQ (QC x)) (λ m=>OO m (QC x)) (JQ (XU x)) (λ m=>OO m (XU x)) (JQ (YW x)) (DP (NV (YW x)) Cy CU (BY x) (λ m=>Yi m x) (Jn x))) (Nc l (FD x)) (EK (hgN x l)) 50 l k)))))) (EK (P6 x)) (EV (Rz x)))))))))))))) := by kernel_rfl
def AVX : Ann := ann 108 [(gC, C_begX.spec dCZ)]
def AVA (x : CT) : Prop := CR Try.prog AVX K7 (AL K7) (xCT x) (AE []) (.tup [.bool false, .int (Na (ctZ x))]) [] [] []
theorem BHJ (x : CT) : (AVA x) = (JR (AT (FD x)) (AW (FD x)) (AV (FD x)) (BA (FD x)) (FM (BB (FD x)) (BF (FD x)) (BM (FD x)) (CA (FD x)) (λ i=>BC i (FD x) (BG (FD x) i) (BD (FD x) i) (AP (FD x) i) (AZ (FD x) i) (AO (FD x) i) (BE (FD x) i) (AM (FD x) i)) (NX (YW x)) (λ i=>JL i (EQ (YW x)) (YW x)) (UV (FD x) (NF (FD x)) (UA (YW x))) (PJ (VO (AEH x)))) (DH (IE (XJ (Km x x))) Cy (AS (XJ (ctZ x)) (XJ (Km x x))) (DH (SZ (PX (MJ (QC x)) (ND (FD x))) (PX (MJ (XU x)) (ND (FD x)))) Cy (AS (XJ (ctZ x)) 2) OW))) := by kernel_rfl
theorem BND (x : CT) : CZ.mk x.c x.t.z = ctZ x := rfl
theorem BMU (x : CT) : (ctZ x).c = x.c := rfl
theorem ASX {f g : Nat -> Bool} (hf : ∀ k, f (k + 1) = (f k && g k)) : ∀ {n k : Nat}, k < n -> g k = false -> f n = false
 | 0, k, h, _ => absurd h (Nat.not_lt_zero _)
 | n + 1, k, h, hg => by
  rw [hf]
  by_cases e : k = n
  ·subst e; rw [hg, Bool.and_false]
  ·rw [ASX hf (show k < n by omega) hg]; rfl
theorem BRR (x : CT) (h1 : (x.c.ms.length < 4611686018427387904 /\ x.c.ns.length < 4611686018427387904 /\ x.t.z.length < 4611686018427387904) /\ x.t.t.length < 4611686018427387904 /\ x.t.s.length < 4611686018427387904) (h0 : BS x.c = 0) : BET x := by
 have hl := PE h0
 have hs := cM h0
 rw [BLP]<;> delta LV He CI CH FE PS SI Pt EE FH CL GY AF CV DC AS IA CG UB CW FG PD HU KV UC MT JT HP GG IQ IV IX JU GZ GM HK LC IF II FV ET XS hd92 LX VO HX PX OE DF MA MN AG ID XJ UI xI FD AH DD EL EW GS AK FJ BN BQ CF SO AJ HR GI EQ BU FT ZT BJ KB AN AM BV AZ CD Hc BR JD BL AO ACL DZ JI EI NO DV DI CB GN AT BB GO EP HD BO DG DY AP BT BA ED AW BE XT BY FZ LZ CX AV FN GF FA DB KP CM EF NC GR JF KU PN EU GQ HZ BD YW FL TY NT BH BI Et EG TW FX IT EK JJ GA CS GD JQ EH UE AEH GJ EC HQ TS Fx WX DH OD Be EA CQ FY IW FM MW JE XD JY ND OC IC BC KO MB Vy IL LY Bc BF CA DK FU JG BG NQ FP ZR HB RA KT KX LJ GT GX KR QD LI wY JX CJ NA AJG Dq QC CU OY UK EV SZ GH OU LL PM IM DQ SQ JL Iz Jd SK JN DE OO QN CE BM DT MJ IB fO EX VM WP QR CY ME NV EO KI UP WQ EZ HT VH TD JO DX TU EJ JM Jy UU WS PO FW JA MR EN FI EY UW KG MI sA Ok NF IE LU UQ DP WK NX EM MD XU Rs TV UA RD JR UV NL TZ GC NK QO SE XY Jn RL Jq RZ SB Sf NM Ju RR Io Cy VE Kq Rf SC SH RG Km UX RF SF Al WJ VD Ns Nc Gl Rz RE P6 Gc Yi Ij RV NN VF RQ XH jG TE NY; simp only [CC, eq_self, implies_true, forall_const, DW, dH, BND, BMU, aQ, Rm]
 have nl := PP x.c
 have wn : wr ((x.c.ms.length : Int) - 1) = ((x.c.ms.length - 1 : Nat) : Int) := by unfold wr; rw [NU (by omega) (by omega)]; omega
 have ws : ∀ a : Nat, a <= 40 -> IntKind.i64.wrap ((a : Int) + 1) = ((a + 1 : Nat) : Int) := λ a h => by rw [NU (by omega) (by omega)]; rfl
 refine ⟨⟨h1.1, h0⟩, λ he => ?_, λ he => ⟨λ hn => ?_, λ hn => ⟨h1.2.1, λ hr => ?_, λ hr => ⟨⟨hl.2.1.1, hl.2.1.2, hs.1⟩, ⟨0, rfl, Nat.zero_le _, rfl⟩, ?_⟩⟩⟩⟩
 ·have e : (Na (ctZ x) == 0) = false := by simpa using he
  unfold Ox; rw [e]; exact ⟨rfl, rfl⟩
 ·have e : (Na (ctZ x) == 0) = true := by simpa using he
  have e2 : decide (x.t.t.length = x.c.ms.length /\ x.t.s.length = x.c.ms.length) = false := by
   rw [decide_eq_false_iff_not]; rintro ⟨a1, a2⟩; rw [a1, a2] at hn; simp at hn
  unfold Ox hldO; rw [e, e2]; exact ⟨rfl, rfl⟩
 ·have e : (Na (ctZ x) == 0) = true := by simpa using he
  have e2 : x.t.t.length = x.c.ms.length /\ x.t.s.length = x.c.ms.length := by
   cases hq : ((x.t.t.length : Int) != x.c.ms.length) with
   | true => rw [hq] at hn; cases hn
   | false =>
    rw [hq] at hn
    have hn : ((x.t.s.length : Int) != x.c.ms.length) = false := hn
    simp at hq hn; omega
  have e3 : inT x.t.t = false := hr
  unfold Ox hldO; rw [e, decide_eq_true e2, e3]; exact ⟨rfl, rfl⟩
 ·have e : (Na (ctZ x) == 0) = true := by simpa using he
  have e2 : x.t.t.length = x.c.ms.length /\ x.t.s.length = x.c.ms.length := by
   cases hq : ((x.t.t.length : Int) != x.c.ms.length) with
   | true => rw [hq] at hn; cases hn
   | false =>
    rw [hq] at hn
    have hn : ((x.t.s.length : Int) != x.c.ms.length) = false := hn
    simp at hq hn; omega
  have e3 : inT x.t.t = true := hr
  have hv : Ox x = (hdN x x.c.ms.length && hgN x (x.c.ms.length - 1), 0) := by unfold Ox hldO; rw [e, decide_eq_true e2, e3]; rfl
  obtain ⟨l1, l2⟩ := e2
  rintro a ⟨ha, hd⟩
  refine ⟨λ hlt => ⟨⟨by omega, by omega⟩, ⟨⟨by omega, by omega⟩, ⟨by omega, by rw [nl]; omega⟩, ⟨by omega, by rw [nl]; omega⟩, λ _ => ⟨by omega, by omega⟩⟩, λ hc => ?_, λ hc => ⟨a + 1, by rw [ws a (by omega)], ⟨by omega, ?_⟩, by omega⟩⟩, λ hge => ?_⟩
  ·have e5 : hd1 x a = false := by
    unfold hd1
    cases hq : TM (gD x.t.t a) (gD (Kb x.c) a).lo (gD (Kb x.c) a).hi with
    | false => rfl
    | true => rw [hq] at hc; simpa using hc
   rw [hv, ASX (f := hdN x) (g := hd1 x) (λ _ => rfl) (show a < x.c.ms.length by omega) e5]; exact ⟨rfl, rfl⟩
  ·have e5 : hd1 x a = true := by
    unfold hd1
    cases hq : TM (gD x.t.t a) (gD (Kb x.c) a).lo (gD (Kb x.c) a).hi with
    | false => rw [hq] at hc; cases hc
    | true => rw [hq] at hc; simpa using hc
   show (hdN x a && hd1 x a) = true
   rw [hd, e5]; rfl
  ·obtain rfl : a = x.c.ms.length := by omega
   refine ⟨⟨0, ⟨rfl, rfl⟩, Nat.zero_le _, rfl⟩, ?_⟩
   rintro g ⟨hg, hgn⟩
   have no : hg1 x g = false -> g < x.c.ms.length - 1 -> (Ox x).1 = false /\ (Ox x).2 = 0 := λ h h2 => by
    rw [hv, ASX (f := hgN x) (g := hg1 x) (λ _ => rfl) h2 h, Bool.and_false]; exact ⟨rfl, rfl⟩
   rw [wn, ws g (by omega)]
   refine ⟨λ hlt => ⟨⟨⟨by omega, by omega⟩, by omega, by omega⟩, ⟨by omega, by omega⟩, by omega, λ hp => ⟨⟨⟨by omega, by omega⟩, by omega, by omega⟩, λ hc => no ?_ (by omega), λ hc => ⟨g + 1, rfl, ⟨by omega, ?_⟩, by omega⟩⟩, λ hp => ⟨⟨⟨by omega, by omega⟩, by omega, by omega⟩, λ hc => no ?_ (by omega), λ hc => ⟨g + 1, rfl, ⟨by omega, ?_⟩, by omega⟩⟩⟩, λ hge => ?_⟩
   ·unfold hg1 SS; rw [hp]; exact hc
   ·have e5 : hg1 x g = true := by unfold hg1 SS; rw [hp]; exact hc
    show (hgN x g && hg1 x g) = true
    rw [hgn, e5]; rfl
   ·unfold hg1 SS; rw [hp]; exact hc
   ·have e5 : hg1 x g = true := by unfold hg1 SS; rw [hp]; exact hc
    show (hgN x g && hg1 x g) = true
    rw [hgn, e5]; rfl
   ·obtain rfl : g = x.c.ms.length - 1 := by omega
    rw [hv, hd, hgn]; exact ⟨rfl, rfl⟩
theorem BEY (x : CT) (h : DO (C_hold.pre x)) : FnT Try.prog ADJ (C_hold.xs x) (AE (C_hold.L x)) (C_hold.val x) (C_hold.keep x) := by
 have h1 : (x.c.ms.length < 4611686018427387904 /\ x.c.ns.length < 4611686018427387904 /\ x.t.z.length < 4611686018427387904) /\ x.t.t.length < 4611686018427387904 /\ x.t.s.length < 4611686018427387904 := h
 by_cases h0 : BS x.c = 0
 ·exact Ky (A := BAL x) (L := []) (keep := []) (ren := []) (fz := []) ARU (by kernel_rfl) (AC ASN (AC BWP (AC BDC (AC BIP (AC ABM (AC ALH AI)))))) (BRR x h1 h0) (BHI We (BNQ x) rfl rfl AI AEU (by kernel_rfl) (by kernel_rfl))
 ·have h0' : (BS x.c == 0) = false := by simpa using h0
  have e0 : Na (ctZ x) = BS x.c := by unfold Na; rw [BMU, h0']; rfl
  have e9 : (Na (ctZ x) == 0) = false := by rw [e0]; exact h0'
  have e : C_hold.val x = .tup [.bool false, .int (Na (ctZ x))] := by
   show AVal.tup [.bool (Ox x).1, .int (Ox x).2] = _
   unfold Ox; rw [e9]; rfl
  rw [e]
  refine Ky (A := AVX) (L := []) (keep := []) (ren := []) (fz := []) ARU (by kernel_rfl) (AC AYQ AI) ?_
  show AVA x; rw [BHJ]<;> delta LV He CI CH FE EE FH CL AF CV DC AS CG FG JT HP GG IQ IV IX JU GZ GM HK LC FV ET XS LX VO PX OW XJ FD AH DD EL EW GS AK BN BQ CF SO AJ HR GI EQ FT BJ AN AM BV AZ CD Hc BR JD BL AO DZ EI DV DI CB GN AT BB BO DG DY AP BT BA ED AW BE LZ AV FN GF FA CM GR GQ BD YW FL EG IT GD AEH GJ EC DH EA CQ FY FM ND OC BC IL BF CA BG NQ GT QD QC SZ JL CE BM MJ IB NF IE NX XU UA JR UV Cy PJ Km; simp only [CC, eq_self, implies_true, forall_const, DW, BND, e0]
  simp [h1, h0]
theorem BLZ : AR Try.prog ADJ (C_hold.spec dCT) := okT C_hold BEY _
end Go.Bal
