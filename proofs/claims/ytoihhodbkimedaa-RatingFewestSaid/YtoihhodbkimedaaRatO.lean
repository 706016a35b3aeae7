/- Package rating: Stages, Dry. -/
import Derived.Test.YtoihhodbkimedaaRatM
set_option linter.unusedVariables false
set_option linter.unusedSimpArgs false
namespace Go.Bal
open Go Go.Sym Go.Proofs
structure GBf where
 a : GB
 f : Int
def dGBf : List AVal -> Heap -> Option (GBf × List (Nat × Nat) × List Nat)
 | [x, y, .d t], H => match tL x H, AIY y H with
  | some (l, f), some (m, e) => some (⟨⟨l, m⟩, JD t⟩, [], f ++ e)
  | _, _ => none
 | _, _ => none
def xGBf (x : GBf) : List AVal := [.d (DX x.a.g), .d (DC x.a.b), .int x.f]
def hsK : Nat -> (Int -> Bool) × (Int -> Int)
 | 0 => (λ _ => false, λ _ => 0)
 | k + 1 => (XI (hsK k).1 k, wX (hsK k).1 (hsK k).2 k)
def wK (a : GB) (k : Nat) : Bk := ⟨a.g, a.b, (hsK k).1, (hsK k).2⟩
def stF (x : GBf) (k : Nat) : Int := upM xQ ⟨PE x.a, k, ⟨x.f, 1⟩⟩ + 1
def stL (x : GBf) (k : Nat) : Int := upM W9 ⟨PE x.a, k, ⟨x.f, 1⟩⟩
def lnK (a : GB) (k : Nat) : List Ln := UD (Jq (PE a) k) (DI (PE a) k).lo
def stgS (x : GBf) : Nat -> Nat -> Span -> Bool -> Span × Int
 | 0, _, o, m => bif m then (o, 0) else (default, 5)
 | n + 1, k, o, m => bif decide ((lnK x.a k).length = 0) then (default, 6) else bif decide (stL x k < stF x k) then stgS x n (k + 1) o m else stgS x n (k + 1) ⟨bif m then o.lo else stF x k, stL x k⟩ true
def preB (a : GB) : Prop := a.g.length < 4611686018427387904 /\ a.b.length < 4611686018427387904
def inF (x : GBf) : Bool := Cb x.f 0 200000
def kA (x : GBf) : Span × Int := bif DQ x.a == 0 then (bif inF x then stgS x (x.a.b.length + 1) 0 default false else (default, 4)) else (default, DQ x.a)
structure KOM where
 k : Nat
 o : Span
 m : Bool
 deriving Inhabited
def bkH (w : Bk) (p q : Nat) : List (Nat × HCell) := [(p, .live (bkB w q)), (q, .live (bkM w))]
def sg8 (x : GBf) : Shape := { α := KOM, dflt := default, T := λ y => ⟨[(2, .int x.f), (6, .bptr 1000 0), (8, .bptr 2032 0), (10, .bptr 7016 0), (11, .bool y.m), (36, .int (x.a.b.length + 1)), (37, .int y.k)], bkH (wK x.a y.k) 2032 2033 ++ [(1000, .live (.box [.int 0, .int 0])), (7016, .live (.box [.int y.o.lo, .int y.o.hi]))]⟩, inv := λ y => y.k <= x.a.b.length + 1 /\ kA x = stgS x (x.a.b.length + 1 - y.k) y.k y.o y.m, meas := λ y => x.a.b.length + 1 - y.k }
def C_Stages : Ctr := { α := GBf, xs := xGBf, L := λ _ => [], val := λ x => .tup [.d (AUB (kA x).1), .int (kA x).2], keep := λ _ => [], pre := λ x => [preB x.a /\ True] }
def G_sg (c : Sym.Spec) : List (FuncId × Sym.Spec) := [(Sb, c), (n_in, s_in), (AOC, C_span.spec dBkI), (Y0, C_lns.spec dBkS), (J5, orS ((Z9 xQ QN).spec (dUpI QN)) ((Z9 W9 QM).spec (dUpI QM)))]
def BZQ (x : GBf) : Ann := { ann 75 (G_sg (C_open.spec dGB)) with loops := λ id => if id = 8 then some [sg8 x] else none }
def CAR : Ann := { ann 75 (G_sg (C_openX.spec dGB)) with cut := λ id => if id = 6 then some [] else none }
def CBP (x : GBf) : Prop := CH Try.prog (BZQ x) tI (AI tI) (xGBf x) (AD []) (C_Stages.val x) [] [] []
abbrev XT:=GBf.a
abbrev tT:=GBf.f
abbrev AQX:=@Prod.fst Span Int
abbrev Y4:=@Prod.snd Span Int
abbrev ASJ:=@Exists KOM
abbrev Wj:=KOM.m
abbrev SX:=KOM.k
abbrev aK:=KOM.o
abbrev AOR:=@Eq (Prod Span Int)
abbrev AQT:=UpI.mk
abbrev mS a:=Y4 (kA a)
abbrev Hh a:=AQX (kA a)
abbrev tQ a:=Zy (aK a)
abbrev Oa a:=CD (La a)
abbrev Mt a:=CD (Zy a)
abbrev tF a b:=AE a a b
abbrev Cu a:=KF (CX a)
abbrev Ua a:=TF (XT a)
abbrev Hl a:=Cu (Ua a)
abbrev Qo a b c:=And (DB a b) c
abbrev Ka a b c d:=AJ a b b c d
abbrev XP a:=BK (SX a)
abbrev AZM a b c:=rH a b c c
abbrev AZA a b:=WB (hP a a) b
abbrev BD a b:=wK (XT a) (SX b)
abbrev EI a b:=AZA (BD a b) (XP b)
abbrev Di a b:=WI (BD a b)
abbrev YA a b c d e f:=AZM (Di a b) (BD c d) (EI e f)
abbrev Eg a b:=RR (BD a b)
abbrev AHF a b:=RO (FP a) b
abbrev Xg a:=AHF a 1
abbrev tG a:=AK (tT a)
abbrev Ag a b:=Cp (BD a b)
abbrev PU a b:=ABS (BD a b)
abbrev HZ a:=AJL (Jr a) (rZ a a)
abbrev Uc a:=HZ (XT a)
abbrev UT a:=SM (Jr a) (ZF a)
attribute [go_sem] XT tT AQX Y4 ASJ Wj SX aK AOR AQT mS Hh tQ Oa Mt tF Cu Ua Hl Qo Ka XP AZM AZA BD EI Di YA Eg AHF Xg tG Ag PU HZ Uc UT
theorem CCR (x : GBf) : (CBP x) = (BC (JV (Bj (XT x) (XT x)) (Ax (XT x) (XT x)) (ZF (XT x)) (Ua x) (Bf (XT x)) (Bl (XT x)) (CD (UT (XT x)))) (Gv 0 (not (NE (tT x) 200000))) (JB (Mt (Hh x)) (Oa (Hh x)) (mS x) 4) (And (ASJ (λ i=>AE (AH (tG x) (ME (Wj i)) (AO (Xg (Ua x)) (DP (FP (Ua x)))) (OW (CN (SX i)) (EY (Eg x i) (Uc x)) (EV (Eg x i) (Uc x)) (QQ (BD x i) (Uc x)) (IQ (BD x i) (Uc x)) (AR (λ j=>ME (Ii (BD x i) j))) (HN (BD x i) (Uc x)) (Ka (AR (λ j=>BS (BD x i) j (Uc x) (λ k=>BT k (BD x i) j (BV (BD x i) j k (Uc x)) (BX (BD x i) j k (Uc x)) (BU (BD x i) j k (Uc x)) (BF (BD x i) j k) (BF (Uc x) j k)))) BA (Mt (aK i)) (Oa (aK i))))) (DB (SX i) (Hl x)) (AOR (kA x) (stgS x (FM (Hl x) (SX i)) (SX i) (aK i) (Wj i))))) ((λ (f : KOM -> Prop) => ∀ (x : KOM), f x) (λ i=>EZ (Qo (SX i) (Hl x) (AOR (kA x) (stgS x (FM (Hl x) (SX i)) (SX i) (aK i) (Wj i)))) (XP i) (Xg (Ua x)) (BC (AE (AK (XP i)) (EY (Di x i) (BD x i)) (AQ (EV (Di x i) (BD x i)) (Nd (Ag x i) (BD x i)) (MA (Ag x i) (BD x i)) DO (UP (BD x i)) (HL (BD x i)) (AR (λ j=>BS (PU x i) j (BD x i) (λ k=>BT k (PU x i) j (BV (PU x i) j k (BD x i)) (BX (PU x i) j k (BD x i)) (BU (PU x i) j k (BD x i)) (BF (PU x i) j k) (BF (BD x i) j k)))) (AW (Eg x i) (Di x i)) (AQ (BE (Eg x i) (Di x i)) (Cx (BD x i) (Ag x i)) (RB (BD x i) (Ag x i)) DO (UP (BD x i)) (HL (BD x i)) (AR (λ j=>BS (BD x i) j (PU x i) (λ k=>BT k (BD x i) j (BV (BD x i) j k (PU x i)) (BX (BD x i) j k (PU x i)) (BU (BD x i) j k (PU x i)) (BF (BD x i) j k) (BF (PU x i) j k)))) (AE (IP (Di x i) (Ag x i) DT) (CA (XP i)) (UC (XP i) (Ag x i))) (AQ (AK (XP i)) (AK (VT (PU x i) (XP i))) (EY (Di x i) (BD x i)) (EV (Di x i) (BD x i)) (Nd (Ag x i) (BD x i)) (MA (Ag x i) (BD x i)) DO (UP (BD x i)) (MH (HL (BD x i)) (AR (λ j=>BS (PU x i) j (BD x i) (λ k=>BT k (PU x i) j (BV (PU x i) j k (BD x i)) (BX (PU x i) j k (BD x i)) (BU (PU x i) j k (BD x i)) (BF (PU x i) j k) (BF (BD x i) j k)))) (EY (Eg x i) (EI x i)) (EV (Eg x i) (EI x i)) (QQ (BD x i) (EI x i)) (IQ (BD x i) (EI x i)) (IP (Di x i) (Ag x i) DT) (VT (PU x i) (XP i)) (JN (VT (PU x i) (XP i)))))))) (MJ (Jt (AGX (PU x i) (XP i) (VT (PU x i) (XP i))))) (JB (Mt (Hh x)) (Oa (Hh x)) (mS x) 6) (tF (OW (AK (XP i)) (EY (Di x i) (BD x i)) (EV (Di x i) (BD x i)) (Nd (Ag x i) (BD x i)) (MA (Ag x i) (BD x i)) (UP (EI x i)) (HL (EI x i)) (AQ (AR (λ j=>BS (YA x i x i x i) j (EI x i) (λ k=>BT k (YA x i x i x i) j (BV (YA x i x i x i) j k (EI x i)) (BX (YA x i x i x i) j k (EI x i)) (BU (YA x i x i x i) j k (EI x i)) (BF (YA x i x i x i) j k) (BF (EI x i) j k)))) (tG x) (AK 1) (AW (Eg x i) (Di x i)) (BE (Eg x i) (Di x i)) (Cx (BD x i) (Ag x i)) (RB (BD x i) (Ag x i)) DO (AQ (UP (EI x i)) (HL (EI x i)) (AR (λ j=>BS (EI x i) j (YA x i x i x i) (λ k=>BT k (EI x i) j (BV (EI x i) j k (YA x i x i x i)) (BX (EI x i) j k (YA x i x i x i)) (BU (EI x i) j k (YA x i x i x i)) (BF (EI x i) j k) (BF (YA x i x i x i) j k)))) (tG x) (AK 1) (IP (Di x i) (Ag x i) DT) (CA (XP i)) (UC (XP i) (Ag x i)) (LW (Ii (EI x i) (XP i)))))) (FA (ZR (DP (dZ (AQT (YA x i x i x i) (XP i) (Rt.mk (tT x) 1)))) (aI (AQT (YA x i x i x i) (XP i) (Rt.mk (tT x) 1)))) (ASJ (λ j=>QU (AH (tG x) (KY (Wj j) (Wj i)) (AK (Xg (Ua x))) (OW (JE (SX j) (XP i)) (EY (Eg x j) (BD x i)) (EV (Eg x j) (BD x i)) (QQ (BD x j) (BD x i)) (IQ (BD x j) (BD x i)) (AR (λ k=>NL (BD x j) k (EI x i) k)) (HN (BD x j) (EI x i)) (Ka (AR (λ k=>BS (BD x j) k (EI x i) (λ l=>BT l (BD x j) k (BV (BD x j) k l (EI x i)) (BX (BD x j) k l (EI x i)) (BU (BD x j) k l (EI x i)) (BF (BD x j) k l) (BF (EI x i) k l)))) BA (AO (tQ j) (tQ i)) (AO (La (aK j)) (La (aK i)))))) (Qo (SX j) (Hl x) (AOR (kA x) (stgS x (FM (Hl x) (SX j)) (SX j) (aK j) (Wj j)))) (Hl x) (SX j) (SX i))) (FA (not (Wj i)) (ASJ (λ j=>QU (AH (tG x) (LW (Wj j)) (AK (Xg (Ua x))) (OW (JE (SX j) (XP i)) (EY (Eg x j) (BD x i)) (EV (Eg x j) (BD x i)) (QQ (BD x j) (BD x i)) (IQ (BD x j) (BD x i)) (AR (λ k=>NL (BD x j) k (EI x i) k)) (HN (BD x j) (EI x i)) (Ka (AR (λ k=>BS (BD x j) k (EI x i) (λ l=>BT l (BD x j) k (BV (BD x j) k l (EI x i)) (BX (BD x j) k l (EI x i)) (BU (BD x j) k l (EI x i)) (BF (BD x j) k l) (BF (EI x i) k l)))) BA (AO (tQ j) (DP (dZ (AQT (YA x i x i x i) (XP i) (Rt.mk (tT x) 1))))) (AO (La (aK j)) (aI (AQT (YA x i x i x i) (XP i) (Rt.mk (tT x) 1))))))) (Qo (SX j) (Hl x) (AOR (kA x) (stgS x (FM (Hl x) (SX j)) (SX j) (aK j) (Wj j)))) (Hl x) (SX j) (SX i))) (ASJ (λ j=>QU (AH (tG x) (KY (Wj j) (Wj i)) (AK (Xg (Ua x))) (OW (JE (SX j) (XP i)) (EY (Eg x j) (BD x i)) (EV (Eg x j) (BD x i)) (QQ (BD x j) (BD x i)) (IQ (BD x j) (BD x i)) (AR (λ k=>NL (BD x j) k (EI x i) k)) (HN (BD x j) (EI x i)) (Ka (AR (λ k=>BS (BD x j) k (EI x i) (λ l=>BT l (BD x j) k (BV (BD x j) k l (EI x i)) (BX (BD x j) k l (EI x i)) (BU (BD x j) k l (EI x i)) (BF (BD x j) k l) (BF (EI x i) k l)))) BA (AO (tQ j) (tQ i)) (AO (La (aK j)) (aI (AQT (YA x i x i x i) (XP i) (Rt.mk (tT x) 1))))))) (Qo (SX j) (Hl x) (AOR (kA x) (stgS x (FM (Hl x) (SX j)) (SX j) (aK j) (Wj j)))) (Hl x) (SX j) (SX i))))))) (FA (not (Wj i)) (JB (Mt (Hh x)) (Oa (Hh x)) (mS x) 5) (AE (AO (Zy (Hh x)) (tQ i)) (AO (La (Hh x)) (La (aK i))) (CD (mS x)))))))) := by kernel_rfl
def BZI (x : GBf) : Prop := CH Try.prog CAR tI (AI tI) (xGBf x) (AD []) (C_Stages.val x) [] [] []
theorem CEC (x : GBf) : (BZI x) = (BC (JV (Bj (XT x) (XT x)) (Ax (XT x) (XT x)) (ZF (XT x)) (Ua x) (Bf (XT x)) (Bl (XT x)) (Bm (UT (XT x)))) (Gv (UT (XT x)) (not (NE (tT x) 200000))) (And (JB (Mt (Hh x)) (Oa (Hh x)) (mS x) 4) EF) (And (FA (KO (UT (XT x))) (JB (Mt (Hh x)) (Oa (Hh x)) (mS x) (UT (XT x))) WQ) EF)) := by kernel_rfl
theorem BGI {pr : Int -> Bool} : ∀ (n : Nat) (lo hi : Int), lo <= hi -> lo <= upL pr n lo hi /\ upL pr n lo hi <= hi
 | 0, lo, hi, h => ⟨Int.le_refl _, h⟩
 | n + 1, lo, hi, h => by
  unfold upL
  by_cases hl : lo < hi
  ·obtain ⟨h3, h4⟩ := P4 hl
   rw [decide_eq_true hl]
   cases pr (lo + (hi - lo + 1).tdiv 2)
   ·have := BGI (pr := pr) n lo (lo + (hi - lo + 1).tdiv 2 - 1) (by omega); exact ⟨this.1, by have := this.2; show upL _ _ _ _ <= _; omega⟩
   ·have := BGI (pr := pr) n (lo + (hi - lo + 1).tdiv 2) hi h4; exact ⟨by have := this.1; show _ <= upL _ _ _ _; omega, this.2⟩
  ·rw [decide_eq_false hl]; exact ⟨Int.le_refl _, h⟩
theorem BQC {v : BnF -> Bool} {a : UpI} (h : XS a.w.g a.w.b) (h1 : 0 <= a.k) (h2 : a.k <= a.w.b.length) : (DI a.w a.k).lo - 1 <= upM v a /\ upM v a <= (DI a.w a.k).hi /\ -1 <= upM v a /\ upM v a <= 2000 := by
 obtain ⟨s1, s2, s3, _⟩ := oE h h1 h2
 obtain ⟨i1, i2⟩ := BGI (pr := upP v a) 3000 ((DI a.w a.k).lo - 1) (DI a.w a.k).hi (by omega)
 unfold upM; omega
theorem CFU (x : GBf) (h : preB x.a) (hE : DQ x.a = 0) : CBP x := by
 rw [CCR]<;> delta KY hd5 Dc GH HK FK KZ KR LU MC KN PN FA AO ZR AT CX AG CG CM EM BK DB DW DT QP PD RO FM PQ YC TU DM GP XV XJ Cr KT RR RQ ZE AR Ii Bw GE MO Zy La TF DJ Cs Lz Lm XT tT AQX Y4 ASJ Wj SX aK AOR AQT KK AE KC AJ AP NV DR AU AK JQ ZD tF Ka QS WI DK BD AX AJL Ib AQ AH Uu Jr BH CY Wy rZ BN CL CZ CA KF DP FT GI BB ED Ek rH HI ZF HZ AZM hP CQ EP DF FP FC NT DG EN AW Cu BF LW CJ DE DN EO Kp ZI DS DY Lb CD LI Ls Cp AZA ABS EU FE TC DV HP FG Jo CE CO JN UQ QF JE HG IF XP DO MN Fc Lj FB UP BE XF BA AHF BC LO MS EI BS JC EZ LA Ef HL MU ME Di BT VT UG EV SG BU BX BV YT EY Ua CN OW U9 PU RB AGX FW NE SM MD IQ Ag HN Jt MA UC Hl KM NL JB MJ Ns QQ Eg IP Hh YA Td Uc QU UT JV Tv Uk MH Cx Bl Bf Oa Mt Ax Bj Nd Xg aI Qo Gv mS tQ dZ tG; simp only [CC, eq_self, implies_true, forall_const, Ec, Rj, xN, xP, Rn, if_true]
 have hb : XS x.a.g x.a.b := AAZ hE
 have hl24 : x.a.b.length <= 24 := hb.2.2.1
 have e0 : DQ x.a == 0 := by rw [hE]; rfl
 refine ⟨⟨h.1, h.2, hE⟩, λ hf => ?_, λ hf => ⟨⟨⟨0, default, false⟩, ⟨rfl, (LS (by omega) (by omega)).symm, rfl, rfl, λ _ _ => ⟨rfl, rfl, rfl⟩, rfl, λ _ _ => rfl, λ _ => rfl, λ _ => rfl, λ _ => ⟨rfl, λ _ _ => ⟨rfl, rfl, rfl, rfl⟩⟩, rfl, rfl⟩, Nat.zero_le _, ?_⟩, λ y ⟨hy1, hy2⟩ => ⟨λ hlt => ?_, λ hge => ?_⟩⟩⟩
 ·have e : kA x = (default, 4) := by
   have hf : (!inF x) = true := hf
   unfold kA; rw [e0, show inF x = false by simpa using hf]; rfl
  rw [e]; exact ⟨rfl, rfl, rfl⟩
 ·have hf : (!inF x) = false := hf
  show kA x = _
  unfold kA; rw [e0, show inF x = true by simpa using hf]; rfl
 ·have hlt : y.k <= x.a.b.length := by omega
  have hs := oE (w := wK x.a y.k) (k := y.k) hb (by omega) (by show (y.k : Int) <= (x.a.b.length : Nat); omega)
  have hkk : (0 : Int) <= (y.k : Int) /\ (y.k : Int) <= ((wK x.a y.k).b.length : Nat) := ⟨by omega, by show (y.k : Int) <= (x.a.b.length : Nat); omega⟩
  have hup : (WB (wK x.a y.k) y.k).has y.k = true := by show XI _ _ _ = true; simp [XI]
  obtain ⟨n, hn⟩ : ∃ n, x.a.b.length + 1 - y.k = n + 1 := ⟨x.a.b.length - y.k, by omega⟩
  have hn2 : x.a.b.length + 1 - (y.k + 1) = n := by omega
  have hn3 : x.a.b.length + 1 - (y.k + 1) < x.a.b.length + 1 - y.k := by omega
  have key := hy2
  rw [hn] at key; unfold stgS at key
  have u1 := BQC (v := xQ) (a := ⟨WB (wK x.a y.k) y.k, y.k, ⟨x.f, 1⟩⟩) hb hkk.1 hkk.2
  have e1 : IntKind.i64.wrap (upM xQ ⟨WB (wK x.a y.k) y.k, y.k, ⟨x.f, 1⟩⟩ + 1) = stF x y.k := LS (by omega) (by omega)
  have e2 : upM W9 ⟨WB (wK x.a y.k) y.k, y.k, ⟨x.f, 1⟩⟩ = stL x y.k := rfl
  rw [e1, e2]
  have ek : ((y.k + 1 : Nat) : Int) = IntKind.i64.wrap ((y.k : Int) + 1) := by rw [LS (by omega) (by omega)]; rfl
  refine ⟨⟨⟨hb, hkk⟩, hb, hs.1, by omega⟩, λ hc => ?_, λ hc => ⟨⟨hb, hkk.1, hkk.2, hup⟩, ⟨hb, hkk.1, hkk.2, hup⟩, λ hg => ?_, λ hg => ⟨λ hm => ?_, λ hm => ?_⟩⟩⟩
  ·have hc : ((lnK x.a y.k).length : Int) == 0 := hc
   rw [decide_eq_true (show (lnK x.a y.k).length = 0 by have := eq_of_beq hc; omega)] at key
   rw [key]; exact ⟨rfl, rfl, rfl⟩
  all_goals
   have hc : (((lnK x.a y.k).length : Int) == 0) = false := hc
   rw [decide_eq_false (show ¬(lnK x.a y.k).length = 0 by intro h0; rw [h0] at hc; cases hc)] at key
  ·rw [decide_eq_true (show stL x y.k < stF x y.k from hg)] at key
   exact ⟨⟨y.k + 1, y.o, y.m⟩, ⟨rfl, ek, rfl, λ _ _ => ⟨rfl, rfl, rfl⟩, rfl, λ _ _ => rfl, λ _ => rfl, λ _ => rfl, λ _ => ⟨rfl, λ _ _ => ⟨rfl, rfl, rfl, rfl⟩⟩, rfl, rfl⟩, ⟨by show y.k + 1 <= _; omega, by show kA x = stgS x (x.a.b.length + 1 - (y.k + 1)) _ _ _; rw [hn2]; exact key⟩, hn3⟩
  ·rw [decide_eq_false (show ¬stL x y.k < stF x y.k from hg), hm] at key
   exact ⟨⟨y.k + 1, ⟨stF x y.k, stL x y.k⟩, true⟩, ⟨rfl, ek, rfl, λ _ _ => ⟨rfl, rfl, rfl⟩, rfl, λ _ _ => rfl, λ _ => rfl, λ _ => rfl, λ _ => ⟨rfl, λ _ _ => ⟨rfl, rfl, rfl, rfl⟩⟩, rfl, rfl⟩, ⟨by show y.k + 1 <= _; omega, by show kA x = stgS x (x.a.b.length + 1 - (y.k + 1)) _ _ _; rw [hn2]; exact key⟩, hn3⟩
  ·rw [decide_eq_false (show ¬stL x y.k < stF x y.k from hg), hm] at key
   exact ⟨⟨y.k + 1, ⟨y.o.lo, stL x y.k⟩, true⟩, ⟨hm.symm, ek, rfl, λ _ _ => ⟨rfl, rfl, rfl⟩, rfl, λ _ _ => rfl, λ _ => rfl, λ _ => rfl, λ _ => ⟨rfl, λ _ _ => ⟨rfl, rfl, rfl, rfl⟩⟩, rfl, rfl⟩, ⟨by show y.k + 1 <= _; omega, by show kA x = stgS x (x.a.b.length + 1 - (y.k + 1)) _ _ _; rw [hn2]; exact key⟩, hn3⟩
 ·have hk : x.a.b.length + 1 - y.k = 0 := by omega
  rw [hk] at hy2; unfold stgS at hy2
  refine ⟨λ hm => ?_, λ hm => ?_⟩ <;> rw [hm] at hy2 <;> rw [hy2] <;> exact ⟨rfl, rfl, rfl⟩
theorem CFO (x : GBf) (h : preB x.a) (hE : DQ x.a ≠ 0) : BZI x := by
 rw [CEC]<;> delta hd5 Dc GH HK FK Tu FA AO AT CX AG CG CM EM PQ WQ TU DM GP EF Zy La TF Cs Lm XT tT AQX Y4 KK AE KC AJ AP AU QS AX Jr BH CY rZ BN CL CZ FT GI BB HI ZF CQ DF FC DG EN AW DE DN EO DS DY CD EU FE DV HP FG CE CO HG MN FB BE BC JC Ua KO FW NE SM KM JB MJ Hh Bm UT JV Tv Uk Bl Bf Oa Mt Ax Bj Gv mS; simp only [CC, eq_self, implies_true, forall_const, Ec, Rj, xN, xP, Rn, if_true]
 have hE : DQ ⟨x.a.g, x.a.b⟩ ≠ 0 := hE
 have e0 : (DQ ⟨x.a.g, x.a.b⟩ == 0) = false := by simpa using hE
 rw [e0]
 refine ⟨⟨h.1, h.2, hE⟩, λ hc => (by cases hc), λ _ => ⟨λ _ => ?_, λ hc => ?_⟩⟩
 ·have e : kA x = (default, DQ x.a) := by unfold kA; rw [show (DQ x.a == 0) = false from e0]; rfl
  rw [e]; exact ⟨rfl, rfl, rfl⟩
 ·exact hE (by simpa using hc)
theorem BLT : AL Try.prog AOZ (C_Stages.spec dGBf) := Ctr.spec_ok (C := C_Stages) (λ (x : GBf) h => by
 have h : preB x.a := (show preB x.a /\ True from h).1
 by_cases hE : DQ x.a = 0
 ·exact Lg (A := BZQ x) (L := []) (keep := []) (ren := []) (fz := []) ATB (by kernel_rfl) (AB AAE (AB qF (AB wG (AB AEO (AB (ADT BSI BSA) AF))))) (CFU x h hE)
 ·exact Lg (A := CAR) (L := []) (keep := []) (ren := []) (fz := []) ATB (by kernel_rfl) (AB Y1 (AB qF (AB wG (AB AEO (AB (ADT BSI BSA) AF))))) (CFO x h hE)) _
end Go.Bal
