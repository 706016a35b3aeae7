/- Package rating: Reach. -/
import Derived.Test.YtoihhodbkimedaaRatJ
set_option linter.unusedVariables false
set_option linter.unusedSimpArgs false

namespace Go.Bal
open Go Go.Sym Go.Proofs
structure BnF where
 b : Bnd
 f : Rt
def dBnd : DVal -> Bnd
 | .agg [a, b, c, d] => ⟨⟨JD a, JD b⟩, ⟨JD c, JD d⟩⟩
 | _ => default
def dBnF : List AVal -> Heap -> Option (BnF × List (Nat × Nat) × List Nat)
 | [.d x, .bptr id _], H => match H id with
  | .live (.box [.d n, .d m]) => some (⟨dBnd x, ⟨JD n, JD m⟩⟩, [(100, id)], [])
  | _ => none
 | _, _ => none
def bxR (f : Rt) : AObj := .box [.int f.n, .int f.d]
def Un (v : BnF -> Bool) : Ctr := { ro := [100], α := BnF, xs := λ a => [.d (eBnd a.b), .bptr 100 0], L := λ a => [(100, bxR a.f)], val := λ a => .bool (v a), keep := λ a => [(100, .live (bxR a.f))] }
def xQ (a : BnF) : Bool := decide (rE a.b.hi a.f < 0)
def W9 (a : BnF) : Bool := decide (rE a.b.lo a.f <= 0)
def BJT : Ann := { ann 9 [(vK, AHC)] with E := [100] }
def CAX (a : BnF) : Prop := CH Try.prog BJT AEH (AI AEH) ((Un xQ).xs a) (AD ((Un xQ).L a)) ((Un xQ).val a) ((Un xQ).keep a) [] []
abbrev sG:=BnF.f
attribute [go_sem] sG
theorem CEZ (a : BnF) : (CAX a) = (AE (KY (xQ a) (KN (Jd (Ed (HB (BnF.b a)) (RN (sG a))) (Ed (SL (sG a)) (GX (BnF.b a)))) 0)) (dG (sG a)) (bG (sG a))) := by kernel_rfl
def CAL (a : BnF) : Prop := CH Try.prog BJT AGT (AI AGT) ((Un W9).xs a) (AD ((Un W9).L a)) ((Un W9).val a) ((Un W9).keep a) [] []
theorem CFD (a : BnF) : (CAL a) = (AE (KY (W9 a) (hd7 (Jd (Ed (GW (BnF.b a)) (RN (sG a))) (Ed (SL (sG a)) (GY (BnF.b a)))) 0)) (dG (sG a)) (bG (sG a))) := by kernel_rfl
theorem CEH : AL Try.prog QN ((Un xQ).spec dBnF) := Ih (Un xQ) (λ _ => BJT) [] [] BDK (λ _ => by kernel_rfl) (λ _ => AB kX AF) (λ (a : BnF) _ => by
 show CAX a; rw [CEZ]<;> delta KY KN AO Jd SL RN Tg bN sG AE AK GX HB bG dG Ed; simp only [CC, eq_self, implies_true, forall_const]; first | done | trivial | exact rfl | (refine ⟨rfl, ?_⟩; exact ⟨rfl, rfl⟩)) (λ _ => Jf rfl rfl) _
theorem CDU : AL Try.prog QM ((Un W9).spec dBnF) := Ih (Un W9) (λ _ => BJT) [] [] BER (λ _ => by kernel_rfl) (λ _ => AB kX AF) (λ (a : BnF) _ => by
 show CAL a; rw [CFD]<;> delta KY hd7 AO Jd SL RN Tg bJ sG AE AK GW GY bG dG Ed; simp only [CC, eq_self, implies_true, forall_const]; first | done | trivial | exact rfl | (refine ⟨rfl, ?_⟩; exact ⟨rfl, rfl⟩)) (λ _ => Jf rfl rfl) _
def upL (pr : Int -> Bool) : Nat -> Int -> Int -> Int
 | 0, lo, _ => lo
 | n + 1, lo, hi => bif decide (lo < hi) then (bif pr (lo + (hi - lo + 1).tdiv 2) then upL pr n (lo + (hi - lo + 1).tdiv 2) hi else upL pr n lo (lo + (hi - lo + 1).tdiv 2 - 1)) else lo
structure UpI where
 w : Bk
 k : Int
 f : Rt
def dUpI (n : FuncId) : List AVal -> Heap -> Option (UpI × List (Nat × Nat) × List Nat)
 | [.bptr id _, .d k, .fn (.func g) [] [.bptr c _]], H => if g = n then match ATV H id, H c with
  | some (w, q), .live (.box [.d x, .d y]) => some (⟨w, JD k, ⟨JD x, JD y⟩⟩, [(100, id), (101, q), (102, c)], [])
  | _, _ => none else none
 | _, _ => none
def upP (v : BnF -> Bool) (a : UpI) (t : Int) : Bool := v ⟨bndM (lB ⟨a.w, t⟩) t, a.f⟩
def upM (v : BnF -> Bool) (a : UpI) : Int := upL (upP v a) 3000 ((DI a.w a.k).lo - 1) (DI a.w a.k).hi
structure LH where
 lo : Int
 hi : Int
 deriving Inhabited
def upH (a : UpI) : List (Nat × HCell) := bkK a.w ++ [(102, .live (bxR a.f))]
def up3 (v : BnF -> Bool) (n : FuncId) (a : UpI) : Shape := { α := LH, dflt := default, T := λ x => ⟨[(0, .bptr 100 0), (2, .fn (.func n) [] [.bptr 102 0]), (8, .int x.lo), (9, .int x.hi)], upH a⟩, inv := λ x => (DI a.w a.k).lo - 1 <= x.lo /\ x.lo <= x.hi /\ x.hi <= (DI a.w a.k).hi /\ ∀ m : Nat, (x.hi - x.lo).toNat <= m -> upM v a = upL (upP v a) m x.lo x.hi, meas := λ x => (x.hi - x.lo).toNat }
def Z9 (v : BnF -> Bool) (n : FuncId) : Ctr := { ro := [100, 101, 102], α := UpI, xs := λ a => [.bptr 100 0, .int a.k, .fn (.func n) [] [.bptr 102 0]], L := λ a => bkL a.w ++ [(102, bxR a.f)], val := λ a => .int (upM v a), keep := λ a => upH a, pre := λ a => [XS a.w.g a.w.b /\ 0 <= a.k /\ a.k <= a.w.b.length /\ a.w.has a.k = true] }
def A_up (v : BnF -> Bool) (n : FuncId) (f : Sym.Spec) (a : UpI) : Ann := { ann 44 [(AOC, C_span.spec dBkI), (Xo, C_bnd.spec dBkt), (n, f)] with E := [100, 101, 102], loops := λ id => if id = 3 then some [up3 v n a] else none }
def CBM (a : UpI) : Prop := CH Try.prog (A_up xQ QN ((Un xQ).spec dBnF) a) mO (AI mO) ((Z9 xQ QN).xs a) (AD ((Z9 xQ QN).L a)) ((Z9 xQ QN).val a) ((Z9 xQ QN).keep a) [] []
abbrev aE:=UpI.k
abbrev BL:=UpI.w
abbrev Sq:=@Exists LH
abbrev ZQ:=LH.lo
abbrev Kb:=LH.hi
abbrev ABE:=λ (f : LH -> Prop) => ∀ (x : LH), f x
abbrev APQ:=@List.nil DVal
abbrev Ny a:=bG (UpI.f a)
abbrev Mo a:=dG (UpI.f a)
abbrev Ay a b c:=BF (BL a) b c
abbrev Og a:=HL (BL a)
abbrev Qd a:=UP (BL a)
abbrev lG a:=NV (BL a)
abbrev Xm a b:=Km (lG a) (BL b)
abbrev Yr a:=BO (lG a)
abbrev UR a:=RR (BL a)
abbrev Yq a:=CB (UR a)
abbrev dZ a:=upM xQ a
abbrev SB a:=GF (Ah (Kb a) (ZQ a))
abbrev TZ a b c d e f g:=Iw (SB a) b (AO c (upL d e (ZQ f) (Kb g)))
abbrev V5 a b c:=DW (Kb a) (Gk b c)
abbrev aY a b c:=V5 a (BL b) (aE c)
abbrev TX a:=DW (ZQ a) (Kb a)
abbrev Q6 a b c:=DW (Ah (VT a b) 1) (ZQ c)
abbrev Yy a b c:=Q6 (BL a) (aE b) c
abbrev AOE a b:=xE (ZQ a) b
abbrev gR a b:=DP (TA a b)
abbrev AOW a b:=jR (gR (Kb a) (ZQ b)) 2
abbrev VU a:=AOE a (AOW a a)
abbrev AOF a b:=iD a (VU b)
abbrev IU a:=hP (BL a) (BL a)
abbrev FV a b:=AOF (IU a) b
abbrev Al a b:=AO (Kb a) b
abbrev Bd a b:=AO (ZQ a) b
abbrev AMM a b:=(@List.cons DVal) (PT a) b
abbrev ABW a b c:=AMM a (AMM b c)
abbrev ANA a b:=uA a (VU b) (AOE b (AOW b b))
abbrev Fo a b:=ANA (IU a) b
abbrev Qs a b:=dBnd (DVal.agg (ABW (GW (Fo a b)) (GY (Fo a b)) (ABW (HB (Fo a b)) (GX (Fo a b)) APQ)))
abbrev AOH a b c:=Ep a b c c
abbrev UL a:=Cp (BL a)
abbrev WP a:=WI (BL a)
abbrev Tb a:=Qa (FH (YC a) 0)
abbrev UC a b:=DW a (FP b)
attribute [go_sem] aE BL Sq ZQ Kb ABE APQ Ny Mo Ay Og Qd lG Xm Yr UR Yq dZ SB TZ V5 aY TX Q6 Yy AOE gR AOW VU AOF IU FV Al Bd AMM ABW ANA Fo Qs AOH UL WP Tb UC
theorem CDC (a : UpI) : (CBM a) = (AE (AH (AK (aE a)) (AW (WP a) (UR a)) (BE (WP a) (UR a)) (AQ (BB (UL a) (lG a)) (MA (UL a) (BL a)) DO (Qd a) (Og a) (AR (λ i=>BS (IU a) i (BL a) (λ j=>BT j (IU a) i (BV (IU a) i j (BL a)) (BX (IU a) i j (BL a)) (BU (IU a) i j (BL a)) (BF (IU a) i j) (Ay a i j)))) (AW (UR a) (WP a)) (BE (UR a) (WP a)) (MH (Cx (BL a) (UL a)) (RB (BL a) (UL a)) DO (Qd a) (Og a) (AR (λ i=>BS (BL a) i (IU a) (λ j=>BT j (BL a) i (BV (BL a) i j (IU a)) (BX (BL a) i j (IU a)) (BU (BL a) i j (IU a)) (Ay a i j) (BF (IU a) i j)))) (IP (WP a) (UL a) DT) (aE a) (UC (aE a) (UL a))))) (Sq (λ i=>AJ (MV (Bd i (QJ (VT (IU a) (aE a)))) (Al i (Gk (IU a) (aE a))) (UR a) (AQ (Yq a) (Yr a) (Xm a a) DO (Qd a) (Og a) (AR (λ j=>SH (BL a) j (λ k=>SD k (BL a) j (SP (BL a) j k) (Ay a j k)))) (Mo a) (Ny a))) (Yy a a i) (TX i) (aY i a a) (AG (λ j=>TZ i j (dZ a) (upP xQ a) j i i)))) (ABE (λ i=>EZ (AH (Yy a a i) (TX i) (aY i a a) (AG (λ j=>TZ i j (dZ a) (upP xQ a) j i i))) (ZQ i) (Kb i) (AH (Tb 2) (BI (AK (VU i)) (AW (WP a) (UR a)) (BE (WP a) (UR a)) (BB (UL a) (lG a)) (MA (UL a) (BL a)) DO (Qd a) (MH (Og a) (AR (λ j=>BS (IU a) j (BL a) (λ k=>BT k (IU a) j (BV (IU a) j k (BL a)) (BX (IU a) j k (BL a)) (BU (IU a) j k (BL a)) (BF (IU a) j k) (Ay a j k)))) (EY (UR a) (FV a i)) (EV (UR a) (FV a i)) (QQ (BL a) (FV a i)) (IQ (BL a) (FV a i)) (IP (WP a) (UL a) DT) (VU i) (JN (VU i)))) (AH (AO (GW (Qs a i)) (GW (Fo a i))) (AO (GY (Qs a i)) (GY (Fo a i))) (AO (HB (Qs a i)) (HB (Fo a i))) (AOH (AO (GX (Qs a i)) (GX (Fo a i))) (Mo a) (Ny a))) (FA (xQ (BnF.mk (Qs a i) (UpI.f a))) (Sq (λ j=>FU (MV (Bd j (VU i)) (Al j (Kb i)) (UR a) (AQ (Yq a) (Yr a) (Xm a a) DO (AR (λ k=>NL (BL a) k (FV a i) k)) (HN (BL a) (FV a i)) (AR (λ k=>BS (BL a) k (FV a i) (λ l=>BT l (BL a) k (BV (BL a) k l (FV a i)) (BX (BL a) k l (FV a i)) (BU (BL a) k l (FV a i)) (Ay a k l) (BF (FV a i) k l)))) (Mo a) (Ny a))) (Yy a a j) (TX j) (aY j a a) (AG (λ k=>TZ j k (dZ a) (upP xQ a) k j j)) (SB j) (SB i))) (Sq (λ j=>FU (MV (Bd j (ZQ i)) (Al j (QJ (VU i))) (UR a) (AQ (Yq a) (Yr a) (Xm a a) DO (AR (λ k=>NL (BL a) k (FV a i) k)) (HN (BL a) (FV a i)) (AR (λ k=>BS (BL a) k (FV a i) (λ l=>BT l (BL a) k (BV (BL a) k l (FV a i)) (BX (BL a) k l (FV a i)) (BU (BL a) k l (FV a i)) (Ay a k l) (BF (FV a i) k l)))) (Mo a) (Ny a))) (Yy a a j) (TX j) (aY j a a) (AG (λ k=>TZ j k (dZ a) (upP xQ a) k j j)) (SB j) (SB i))))) (AE (AO (dZ a) (ZQ i)) (AS (UR a)) (AQ (Yq a) (Yr a) (Xm a a) DO (Qd a) (Og a) (AR (λ j=>SH (BL a) j (λ k=>SD k (BL a) j (SP (BL a) j k) (Ay a j k)))) (Mo a) (Ny a)))))) := by kernel_rfl
theorem ALB (a b c d : Int) : dBnd (.agg [PT a, PT b, PT c, PT d]) = ⟨⟨a, b⟩, ⟨c, d⟩⟩ := rfl
theorem BHG {lo hi : Int} (h1 : -1 <= lo) (h2 : lo <= hi) (h3 : hi <= 2000) : IntKind.i64.wrap (lo + IntKind.i64.wrap ((IntKind.i64.wrap (IntKind.i64.wrap (hi - lo) + 1)).tdiv 2)) = lo + (hi - lo + 1).tdiv 2 := by
 have e : (hi - lo + 1).tdiv 2 = (hi - lo + 1) / 2 := Int.tdiv_eq_ediv_of_nonneg (by omega)
 rw [LS (n := hi - lo) (by omega) (by omega), LS (n := hi - lo + 1) (by omega) (by omega), e, LS (n := (hi - lo + 1) / 2) (by omega) (by omega), LS (by omega) (by omega)]
theorem oE {w : Bk} {k : Int} (h : XS w.g w.b) (h1 : 0 <= k) (h2 : k <= w.b.length) : 0 <= (DI w k).lo /\ (DI w k).lo <= (DI w k).hi /\ (DI w k).hi <= 2000 /\ ∀ m : Int, (DI w k).lo <= m -> m <= (DI w k).hi -> (Tl w.b m : Int) = k := by
 obtain ⟨_, _, _, hasc, hbr⟩ := h
 obtain ⟨n, rfl⟩ := Int.eq_ofNat_of_zero_le h1
 have h2 : n <= w.b.length := Int.ofNat_le.1 h2
 have hb : ∀ i, i < w.b.length -> 1 <= gD w.b i /\ gD w.b i <= 2000 := λ i hi => hbr _ (DU hi)
 have elo : (DI w n).lo = if 0 < n then gD w.b (n - 1) else 0 := by
  show (bif decide ((n : Int) > 0) then gD w.b ((n : Int) - 1).toNat else 0) = _
  by_cases h0 : 0 < n
  ·rw [decide_eq_true (show (n : Int) > 0 by omega), if_pos h0, show ((n : Int) - 1).toNat = n - 1 by omega]; rfl
  ·rw [decide_eq_false (show ¬(n : Int) > 0 by omega), if_neg h0]; rfl
 have ehi : (DI w n).hi = if n < w.b.length then gD w.b n - 1 else 2000 := by
  show (bif decide ((n : Int) < w.b.length) then wr (gD w.b (n : Int).toNat - 1) else 2000) = _
  by_cases h0 : n < w.b.length
  ·have := hb n h0
   rw [decide_eq_true (show (n : Int) < w.b.length by omega), if_pos h0, Int.toNat_natCast]
   unfold wr; rw [LS (by omega) (by omega)]; rfl
  ·rw [decide_eq_false (show ¬(n : Int) < w.b.length by omega), if_neg h0]; rfl
 have h3 : 0 < n -> n < w.b.length -> gD w.b (n - 1) < gD w.b n := λ a b => We hasc (by omega) b
 refine ⟨?_, ?_, ?_, λ m hm hm2 => ?_⟩
 ·rw [elo]; split
  ·have := hb (n - 1) (by omega); omega
  ·omega
 ·rw [elo, ehi]; split <;> split
  ·have := h3 (by omega) (by omega); omega
  ·exact (hb (n - 1) (by omega)).2
  ·have := hb n (by omega); omega
  ·omega
 ·rw [ehi]; split
  ·have := hb n (by omega); omega
  ·omega
 ·congr 1
  refine X9 h2 (λ j hj => ?_) (λ j hj hj2 => ?_)
  ·rw [elo, if_pos (by omega)] at hm
   have : gD w.b j <= gD w.b (n - 1) := by
    by_cases e : j = n - 1
    ·rw [e]; exact Int.le_refl _
    ·exact Int.le_of_lt (We hasc (by omega) (by omega))
   exact decide_eq_true (by omega)
  ·rw [ehi, if_pos (by omega)] at hm2
   have : gD w.b n <= gD w.b j := by
    by_cases e : n = j
    ·rw [e]; exact Int.le_refl _
    ·exact Int.le_of_lt (We hasc (by omega) hj2)
   exact decide_eq_false (by omega)
theorem P4 {lo hi : Int} (h : lo < hi) : lo < lo + (hi - lo + 1).tdiv 2 /\ lo + (hi - lo + 1).tdiv 2 <= hi := by
 rw [Int.tdiv_eq_ediv_of_nonneg (by omega)]; omega
theorem TB {pr : Int -> Bool} : ∀ (m n : Nat) (lo hi : Int), lo <= hi -> (hi - lo).toNat <= m -> (hi - lo).toNat <= n -> upL pr m lo hi = upL pr n lo hi
 | 0, 0, _, _, _, _, _ => rfl
 | 0, n + 1, lo, hi, h, h1, _ => by unfold upL; rw [decide_eq_false (show ¬lo < hi by omega)]; rfl
 | m + 1, 0, lo, hi, h, _, h1 => by unfold upL; rw [decide_eq_false (show ¬lo < hi by omega)]; rfl
 | m + 1, n + 1, lo, hi, h, h1, h2 => by
  unfold upL
  by_cases hl : lo < hi
  ·obtain ⟨h3, h4⟩ := P4 hl
   rw [decide_eq_true hl]
   cases pr (lo + (hi - lo + 1).tdiv 2)
   ·exact TB m n _ _ (by omega) (by omega) (by omega)
   ·exact TB m n _ _ h4 (by omega) (by omega)
  ·rw [decide_eq_false hl]; rfl
theorem CHV (a : UpI) (h : XS a.w.g a.w.b) (hk : 0 <= a.k /\ a.k <= a.w.b.length) (hh : a.w.has a.k = true) : CBM a := by
 rw [CDC]<;> delta KY GH HK FK KZ KR LU MC KN FA AO AT CX AG CG CM EM BK DB DW DT QP PD RO PQ Ah YC WQ SL jR RN bJ bN DM GP XV XJ GF Cr RR RQ ZE AR Ii Bw GE MO Zy La Lz aE BL Sq ZQ Kb ABE APQ KK AE KC AJ AP NV DR AU AK BO JQ ZD Ep AOH WI DK AX Ib qY AQ AH Uu BH TA CY Wy BN CL CZ CA DP FT xE GI gR BB Ek iD rH HI hP AOE CQ EP DF FP MX FC NT xF DG EN AW BF CJ uA AOW DE DN AS EO Kp ZI DY Lb QJ LI AMM Ls UR Cp EU FE IU TC VU DV HP FG Jo CE MK AOF JN QF ABW IF DO Fc Lj ANA FB HD UP FH BE CB Iw XF LO GX GW BI MS BS Fo EZ LA GY HB Dg Ef HL MU Hd FV SH SP BT VT UG EV SB SG BU BX BV YT EY UL Gk RB MD WP FU IQ lG SD HN MA UC NL Km bG TX V5 MV QQ Q6 dG Ay IP Qa Al TZ Bd Mo Og Ny Qd Qs MH Cx Yq Yr Xm Yy Tb aY dZ; simp only [CC, eq_self, implies_true, forall_const, Ec, Rj, xN, xP, Rn, ALB, if_true]
 obtain ⟨s1, s2, s3, s4⟩ := oE h hk.1 hk.2
 refine ⟨⟨h, hk⟩, ⟨⟨(DI a.w a.k).lo - 1, (DI a.w a.k).hi⟩, ⟨(LS (n := (DI a.w a.k).lo - 1) (by omega) (by omega)).symm, rfl⟩, Int.le_refl _, (by omega : (DI a.w a.k).lo - 1 <= (DI a.w a.k).hi), Int.le_refl _, λ m hm => TB 3000 m ((DI a.w a.k).lo - 1) (DI a.w a.k).hi (by omega) (by omega) hm⟩, λ x ⟨i1, i2, i3, i4⟩ => ⟨λ hl => ?_, λ hl => ?_⟩⟩
 ·obtain ⟨m1, m2⟩ := P4 hl
  simp only [BHG (lo := x.lo) (hi := x.hi) (by omega) (by omega) (by omega), show ∀ t, kB ⟨a.w, t⟩ = (Tl a.w.b t : Int) from λ _ => rfl, s4 _ (show (DI a.w a.k).lo <= x.lo + (x.hi - x.lo + 1).tdiv 2 by omega) (by omega), Wn hh, implies_true, and_true]
  obtain ⟨n, hn⟩ : ∃ n, (x.hi - x.lo).toNat = n + 1 := ⟨(x.hi - x.lo).toNat - 1, by omega⟩
  have key := i4 (n + 1) (by omega)
  unfold upL at key
  rw [decide_eq_true hl] at key
  generalize hM : x.lo + (x.hi - x.lo + 1).tdiv 2 = M at *
  refine ⟨by simp, ⟨h, by omega, by omega⟩, λ hp => ⟨⟨M, x.hi⟩, ⟨rfl, rfl⟩, ⟨(by omega : (DI a.w a.k).lo - 1 <= M), m2, i3, λ m hm => ?_⟩, (by omega : (x.hi - M).toNat < (x.hi - x.lo).toNat)⟩, λ hp => ⟨⟨x.lo, M - 1⟩, ⟨rfl, (LS (n := M - 1) (by omega) (by omega)).symm⟩, ⟨i1, (by omega : x.lo <= M - 1), (by omega : M - 1 <= (DI a.w a.k).hi), λ m hm => ?_⟩, (by omega : (M - 1 - x.lo).toNat < (x.hi - x.lo).toNat)⟩⟩
  ·rw [key, show upP xQ a M = true from hp]
   exact TB n m M x.hi m2 (by omega) hm
  ·rw [key, show upP xQ a M = false from hp]
   exact TB n m x.lo (M - 1) (by omega) (by omega) hm
 ·rw [i4 0 (by omega)]; rfl
end Go.Bal
