/- Package chart: streams of numbers: New, Next, Within, Pick. -/
import Derived.Test.YtdbjalgfomknhaaChP
set_option linter.unusedVariables false
set_option linter.unusedSimpArgs false
namespace Go.Bal.DL
open Go.Sym Go
theorem m1 (n : Int) : FQ (.v (.int .u8 n)) = n := rfl
end Go.Bal.DL
namespace Go.Bal
open Go Go.Sym Go.Proofs
structure Stm where
 bs : List Int
 used : Int
 mix : Int
 deriving Inhabited
end Go.Bal
namespace Go.Bal.DL
theorem m2 (s : Stm) : Stm.mk s.bs s.used s.mix = s := rfl
end Go.Bal.DL
namespace Go.Bal
open Go Go.Sym Go.Proofs
def eBys (l : List Int) : DVal := lst 1 l.length λ i => .v (.int .u8 (gD l i))
def stmO (s : Stm) : AObj := .box [.d (eBys s.bs), .int s.used, .int s.mix]
def stmH (s : Stm) : HCell := .live (stmO s)
def ATE (H : Heap) (id : Nat) : Option Stm := match H id with
 | .live (.box [.d (.list _ n g _), .d (.v (.int _ u)), .d (.v (.int _ m))]) => some ⟨OF n λ i => FQ (g i), u, m⟩
 | _ => none
def C_New : Ctr := { α := List Int, xs := λ l => [.d (eBys l)], L := λ _ => [], val := λ _ => .bptr 0 0, keep := λ l => [(0, stmH ⟨l, 0, 0⟩)] }
def BPK : List AVal -> Heap -> Option (List Int × List (Nat × Nat) × List Nat)
 | [.d (.list _ n g _)], _ => some (OF n λ i => FQ (g i), [], [])
 | _, _ => none
def BPP (l : List Int) : Prop := CR Try.prog (ann 6 []) BIN (AL BIN) (C_New.xs l) (AE []) (C_New.val l) (C_New.keep l) [(0, 2032)] []
theorem BRI (l : List Int) : (BPP l) = (And (JQ l) (wS (NV l) (Gb 0))) := by kernel_rfl
def ZO (s : Stm) : Int := if s.bs.length <= s.used then wr (wr (gD s.bs (s.used.tmod s.bs.length).toNat) + wr (wr (11 * s.mix) + wr (s.used.tdiv s.bs.length))) else wr (gD s.bs (s.used.tmod s.bs.length).toNat)
def Vu (s : Stm) : Int := (wr (wr (wr (5 * s.mix) + ZO s) + 1)).tmod 251
def idle (s : Stm) (n : Int) : Bool := if n < 2 then true else decide (s.bs.length = 0)
def CP (s : Stm) (n : Int) : Stm := if idle s n then s else ⟨s.bs, wr (s.used + 1), Vu s⟩
def BZ (s : Stm) (n : Int) : Int := if idle s n then 0 else (if 256 < n then wr (wr (256 * ZO s) + Vu s) else ZO s).tmod n
structure SN where
 s : Stm
 n : Int
def C_Next : Ctr := { α := SN, xs := λ a => [.bptr 100 0, .int a.n], L := λ a => [(100, stmO a.s)], val := λ a => .int (BZ a.s a.n), keep := λ a => [(100, stmH (CP a.s a.n))], pre := λ a => [0 <= a.s.used] }
def ATB : List AVal -> Heap -> Option (SN × List (Nat × Nat) × List Nat)
 | [.bptr p _, .d (.v (.int _ n))], H => match ATE H p with
  | some s => some (⟨s, n⟩, [(100, p)], [])
  | none => none
 | _, _ => none
def BBC : Ann := { ann 92 [] with E := [100] }
def BHO (a : SN) : Prop := CR Try.prog BBC ASH (AL ASH) (C_Next.xs a) (AE (C_Next.L a)) (C_Next.val a) (C_Next.keep a) [] []
abbrev Gr:=SN.n
abbrev wM:=Stm.bs
abbrev hX:=SN.s
abbrev J8:=BZ
abbrev gX:=Stm.used
abbrev aB:=Stm.mix
abbrev AJW:=Int.tmod
abbrev Xk a b c:=AS a (AJW b c)
abbrev AEK a b c:=GO (wY a b) c
abbrev Kn a b c:=AEK a (aB (hX b)) c
abbrev Pg a:=wM (hX a)
abbrev Rw a:=MJ (Pg a)
abbrev Ef a:=gX (hX a)
abbrev AKO a b:=AJW (Ef a) (Rw b)
abbrev Oe a b c:=JI (ET (Pg a) (HX (AKO b c)))
abbrev Kl a:=CP (hX a) (Gr a)
abbrev Nh a:=wM (Kl a)
attribute [go_sem] Gr wM hX J8 gX aB AJW Xk AEK Kn Pg Rw Ef AKO Oe Kl Nh
theorem BMJ (a : SN) : (BHO a) = (EZ (SZ (PD (Gr a) 2) (XR (Rw a))) (AK (EV (J8 (hX a) (Gr a))) (CQ (Nh a) (Pg a)) (EO (Nh a) (Pg a)) (AS (gX (Kl a)) (Ef a)) (AS (aB (Kl a)) (aB (hX a)))) (Al (PJ (Rw a)) (AKO a a) (Pg a)) (EZ (bO (Ef a) (Rw a)) (AH (Gt (CY (FV (Pg a)))) (Gt (Gb (UB 251))) (DH (JV (Gr a) 256) (Gt (EV (Gr a))) (AK (Xk (J8 (hX a) (Gr a)) (AEK 256 (GO (Oe a a a) (Kn 11 a (dK (Ef a) (Rw a)))) (AJW (EF (Kn 5 a (GO (Oe a a a) (Kn 11 a (dK (Ef a) (Rw a)))))) 251)) (Gr a)) (CQ (Nh a) (Pg a)) (EO (Nh a) (Pg a)) (AS (gX (Kl a)) (EF (Ef a))) (Xk (aB (Kl a)) (EF (Kn 5 a (GO (Oe a a a) (Kn 11 a (dK (Ef a) (Rw a)))))) 251)) (DA (Gt (EV (Gr a))) (Xk (J8 (hX a) (Gr a)) (GO (Oe a a a) (Kn 11 a (dK (Ef a) (Rw a)))) (Gr a)) (CQ (Nh a) (Pg a)) (EO (Nh a) (Pg a)) (AS (gX (Kl a)) (EF (Ef a))) (Xk (aB (Kl a)) (EF (Kn 5 a (GO (Oe a a a) (Kn 11 a (dK (Ef a) (Rw a)))))) 251)))) (Gt (Gb (UB 251))) (DH (JV (Gr a) 256) (Gt (EV (Gr a))) (AK (Xk (J8 (hX a) (Gr a)) (AEK 256 (Oe a a a) (AJW (EF (Kn 5 a (Oe a a a))) 251)) (Gr a)) (CQ (Nh a) (Pg a)) (EO (Nh a) (Pg a)) (AS (gX (Kl a)) (EF (Ef a))) (Xk (aB (Kl a)) (EF (Kn 5 a (Oe a a a))) 251)) (DA (Gt (EV (Gr a))) (Xk (J8 (hX a) (Gr a)) (Oe a a a) (Gr a)) (CQ (Nh a) (Pg a)) (EO (Nh a) (Pg a)) (AS (gX (Kl a)) (EF (Ef a))) (Xk (aB (Kl a)) (EF (Kn 5 a (Oe a a a))) 251))))) := by kernel_rfl
def witN (lo hi : Int) : Int := wr (wr (hi - lo) + 1)
def Rj (s : Stm) (lo hi : Int) : Int := wr (lo + BZ s (witN lo hi))
def Fc (s : Stm) (lo hi : Int) : Stm := CP s (witN lo hi)
structure SW where
 s : Stm
 lo : Int
 hi : Int
def C_Within : Ctr := { α := SW, xs := λ a => [.bptr 100 0, .int a.lo, .int a.hi], L := λ a => [(100, stmO a.s)], val := λ a => .int (Rj a.s a.lo a.hi), keep := λ a => [(100, stmH (Fc a.s a.lo a.hi))], pre := λ a => [0 <= a.s.used] }
def ARX : List AVal -> Heap -> Option (SW × List (Nat × Nat) × List Nat)
 | [.bptr p _, .d (.v (.int _ n)), .d (.v (.int _ m))], H => match ATE H p with
  | some s => some (⟨s, n, m⟩, [(100, p)], [])
  | none => none
 | _, _ => none
def ARA : Ann := { ann 15 [(ANL, C_Next.spec ATB)] with E := [100] }
def ARI (a : SW) : Prop := CR Try.prog ARA AFI (AL AFI) (C_Within.xs a) (AE (C_Within.L a)) (C_Within.val a) (C_Within.keep a) [] []
abbrev bD:=SW.hi
abbrev Wk:=SW.lo
abbrev G7:=Stm.mk
abbrev Zg a b:=EF (KP a b)
abbrev lX a:=aB (SW.s a)
abbrev dA a:=gX (SW.s a)
abbrev fG a:=wM (SW.s a)
attribute [go_sem] bD Wk G7 Zg lX dA fG
theorem BAI (a : SW) : (ARI a) = (DA (DA (AJ (Zg (bD a) (Wk a))) (NX (fG a)) (VE (fG a)) (AJ (dA a)) (AJ (lX a)) (Int.NonNeg (Pt (dA a) 0))) (AS (Rj (SW.s a) (Wk a) (bD a)) (GO (Wk a) (J8 (G7 (EQ (fG a)) (dA a) (lX a)) (Zg (bD a) (Wk a))))) (CQ (wM (Fc (SW.s a) (Wk a) (bD a))) (wM (CP (G7 (EQ (fG a)) (dA a) (lX a)) (Zg (bD a) (Wk a))))) (EO (wM (Fc (SW.s a) (Wk a) (bD a))) (wM (CP (G7 (EQ (fG a)) (dA a) (lX a)) (Zg (bD a) (Wk a))))) (AS (gX (Fc (SW.s a) (Wk a) (bD a))) (gX (CP (G7 (EQ (fG a)) (dA a) (lX a)) (Zg (bD a) (Wk a))))) (AS (aB (Fc (SW.s a) (Wk a) (bD a))) (aB (CP (G7 (EQ (fG a)) (dA a) (lX a)) (Zg (bD a) (Wk a)))))) := by kernel_rfl
def ZS (v n : Int) : Int := if n < 1 then 0 else if v.tmod n < 0 then wr (v.tmod n + n) else v.tmod n
def BHM (v n : Int) : Prop := CR Try.prog (ann 16 []) AUJ (AL AUJ) [.int v, .int n] (AE []) (.int (ZS v n)) [] [] []
theorem BIV (v : Int) (n : Int) : (BHM v n) = (bif decide (n < 1) then ZS v n = 0 else (n = 0 -> False) /\ bif decide (v.tmod n < 0) then ZS v n = IntKind.i64.wrap (v.tmod n + n) else ZS v n = v.tmod n) :=
 by kernel_rfl
def BDH : List AVal -> Option (AVal × List Prop)
 | [.d (.v (.int .i64 a)), .d (.v (.int .i64 b))] => some (.int (ZS a b), [])
 | _ => none
def BEX := mH BDH
theorem BWL (l : List Int) : BPP l := by
 rw [BRI]<;> delta CL AF CV DC AS UB FV ET AH BQ AJ wS BU LZ JQ OD Vy OO NV Gb; exact ⟨rfl, λ _ _ => rfl, rfl, rfl⟩
theorem BRY : AR Try.prog BCG (C_New.spec BPK) := Bl C_New (λ _ => ann 6 []) [(0, 2032)] [] BTC (λ _ => by kernel_rfl) (λ _ => AI) (λ l _ => BWL l) (λ _ => Ec rfl rfl) _
theorem BTT (s : Stm) (n : Int) : (bif decide (n < 2) then true else (s.bs.length : Int) == 0) = idle s n := by
 unfold idle
 by_cases h : n < 2
 ·simp [h]
 ·simp only [h, decide_false, cond_false, if_false]
  by_cases h2 : s.bs.length = 0
  ·simp [h2]
  ·have : ¬ (s.bs.length : Int) = 0 := by omega
   simp [h2]
theorem BJD {a b : Int} (ha : 0 <= a) (hb : 0 < b) : 0 <= a.tmod b /\ a.tmod b < b := by
 rw [Int.tmod_eq_emod_of_nonneg ha]
 exact ⟨Int.emod_nonneg _ (by omega), Int.emod_lt_of_pos _ hb⟩
theorem BRU (a : SN) (h : 0 <= a.s.used) : BHO a := by
 rw [BMJ]<;> delta bO PS SI CL AF CV DC AS CG UB FG PD HU KV UC FV ET Lv LX JV HX OW xI Gr wM hX J8 gX aB AJW AH AK BQ JI GO FZ LZ CX EF HZ FL DH OD CQ OC IL NQ QD wY Pg EV SZ JL MJ DA dK QR CY EO EZ Ef Rw MR Kl AEK Nh Kn AKO PJ XR Al Gt Oe Gb Xk; simp only [CC, eq_self, implies_true, forall_const, BTT]
 refine ⟨λ hi => ?_, λ hi => ?_⟩
 ·have e1 : BZ a.s a.n = 0 := by unfold BZ; rw [hi]; rfl
  have e2 : CP a.s a.n = a.s := by unfold CP; rw [hi]; rfl
  rw [e1, e2]; exact ⟨rfl, rfl, λ _ _ => rfl, rfl, rfl⟩
 have hi2 : ¬ a.n < 2 /\ ¬ a.s.bs.length = 0 := by
  unfold idle at hi
  by_cases x : a.n < 2
  ·rw [if_pos x] at hi; cases hi
  ·rw [if_neg x] at hi; exact ⟨x, by simpa using hi⟩
 obtain ⟨i1, i2⟩ := hi2
 have e1 : BZ a.s a.n = (if 256 < a.n then wr (wr (256 * ZO a.s) + Vu a.s) else ZO a.s).tmod a.n := by unfold BZ; rw [hi]; rfl
 have e2 : CP a.s a.n = ⟨a.s.bs, wr (a.s.used + 1), Vu a.s⟩ := by unfold CP; rw [hi]; rfl
 have hm := BJD h (show 0 < (a.s.bs.length : Int) by omega)
 rw [e1, e2]
 refine ⟨⟨by omega, hm⟩, λ hu => ⟨by omega, by decide, λ hn => ⟨by omega, ?_⟩, λ hn => ⟨by omega, ?_⟩⟩, λ hu => ⟨by decide, λ hn => ⟨by omega, ?_⟩, λ hn => ⟨by omega, ?_⟩⟩⟩
 ·rw [if_pos (by omega)]; unfold Vu ZO; rw [if_pos (by omega)]; exact ⟨rfl, rfl, λ _ _ => rfl, rfl, rfl⟩
 ·rw [if_neg (by omega)]; unfold Vu ZO; rw [if_pos (by omega)]; exact ⟨rfl, rfl, λ _ _ => rfl, rfl, rfl⟩
 ·rw [if_pos (by omega)]; unfold Vu ZO; rw [if_neg (by omega)]; exact ⟨rfl, rfl, λ _ _ => rfl, rfl, rfl⟩
 ·rw [if_neg (by omega)]; unfold Vu ZO; rw [if_neg (by omega)]; exact ⟨rfl, rfl, λ _ _ => rfl, rfl, rfl⟩
theorem AWI : AR Try.prog ANL (C_Next.spec ATB) := Bl C_Next (λ _ => BBC) [] [] BKY (λ _ => by kernel_rfl) (λ _ => AI) (λ a h => BRU a h) (λ _ => Ec rfl rfl) _
theorem BEL (a : SW) (h : 0 <= a.s.used) : ARI a := by
 rw [BAI]<;> delta PS SI Pt CL AF CV DC AS UC FV ET XS wM J8 gX aB bD Wk G7 AH AK BQ SO AJ EQ JI GO LZ KP EF FL CQ OC IL NQ QD JL DA EO NX VE dA fG Zg lX; simp only [CC, eq_self, implies_true, forall_const]
 exact ⟨h, rfl, rfl, λ _ _ => rfl, rfl, rfl⟩
theorem AZW : AR Try.prog AEW (C_Within.spec ARX) := Bl C_Within (λ _ => ARA) [] [] AZQ (λ _ => by kernel_rfl) (λ _ => AC AWI AI) (λ a h => BEL a h) (λ _ => Ec rfl rfl) _
theorem BQG (a b : Int) : BHM a b := by
 rw [BIV]; simp only [CC, eq_self, implies_true, forall_const]
 unfold ZS
 refine ⟨λ h => if_pos h, λ h => ⟨by omega, λ h2 => ?_, λ h2 => ?_⟩⟩
 ·rw [if_neg h, if_pos h2]; rfl
 ·rw [if_neg h, if_neg h2]
theorem BJV : AR Try.prog AUE BEX := iN λ xs v p h _ => by
 unfold BDH at h; split at h
 ·cases h; exact Ky (A := ann 16 []) (ren := []) (fz := []) BLY (by kernel_rfl) AI (BQG _ _)
 ·cases h
structure StmB (K : Int) (s : Stm) : Prop where
 used : 0 <= s.used /\ s.used <= K
 mix : 0 <= s.mix /\ s.mix < 251
 bs : ∀ i, i < s.bs.length -> 0 <= gD s.bs i /\ gD s.bs i <= 255
theorem AOD {a b : Int} (ha : 0 <= a) (hb : 0 < b) : 0 <= a.tmod b /\ a.tmod b < b := by
 rw [Int.tmod_eq_emod_of_nonneg ha]
 exact ⟨Int.emod_nonneg _ (by omega), Int.emod_lt_of_pos _ hb⟩
theorem AQT {K : Int} {s : Stm} (h : StmB K s) (hK : K <= 1000000000000000) (hb : s.bs.length ≠ 0) : 0 <= ZO s /\ ZO s <= 1000000000010000 := by
 have hu := h.used
 have hm := h.mix
 have hi := AOD hu.1 (show 0 < (s.bs.length : Int) by omega)
 have hx := h.bs (s.used.tmod s.bs.length).toNat (by omega)
 have hq : 0 <= s.used.tdiv s.bs.length /\ s.used.tdiv s.bs.length <= 1000000000000000 := by
  rw [Int.tdiv_eq_ediv_of_nonneg hu.1]
  refine ⟨Int.ediv_nonneg hu.1 (by omega), ?_⟩
  have := Int.ediv_le_self (s.bs.length : Int) hu.1
  omega
 have e0 : wr (gD s.bs (s.used.tmod s.bs.length).toNat) = gD s.bs (s.used.tmod s.bs.length).toNat := NU (by omega) (by omega)
 have e1 : wr (11 * s.mix) = 11 * s.mix := NU (by omega) (by omega)
 have e2 : wr (s.used.tdiv s.bs.length) = s.used.tdiv s.bs.length := NU (by omega) (by omega)
 have e3 : wr (11 * s.mix + s.used.tdiv s.bs.length) = 11 * s.mix + s.used.tdiv s.bs.length := NU (by omega) (by omega)
 have e4 : wr (gD s.bs (s.used.tmod s.bs.length).toNat + (11 * s.mix + s.used.tdiv s.bs.length)) = gD s.bs (s.used.tmod s.bs.length).toNat + (11 * s.mix + s.used.tdiv s.bs.length) := NU (by omega) (by omega)
 unfold ZO
 rw [e0, e1, e2, e3, e4]
 split <;> omega
theorem AOS {K : Int} {s : Stm} (h : StmB K s) (hK : K <= 1000000000000000) (hb : s.bs.length ≠ 0) : 0 <= Vu s /\ Vu s < 251 := by
 have hm := h.mix
 have hn := AQT h hK hb
 have e1 : wr (5 * s.mix) = 5 * s.mix := NU (by omega) (by omega)
 have e2 : wr (5 * s.mix + ZO s) = 5 * s.mix + ZO s := NU (by omega) (by omega)
 have e3 : wr (5 * s.mix + ZO s + 1) = 5 * s.mix + ZO s + 1 := NU (by omega) (by omega)
 unfold Vu
 rw [e1, e2, e3]
 exact AOD (by omega) (by omega)
theorem BCN {s : Stm} {n : Int} (h : idle s n = false) : 2 <= n /\ s.bs.length ≠ 0 := by
 unfold idle at h
 by_cases x : n < 2
 ·rw [if_pos x] at h; cases h
 ·rw [if_neg x] at h; exact ⟨by omega, by simpa using h⟩
theorem StmB.mono {K M : Int} {s : Stm} (h : StmB K s) (hK : K <= M) : StmB M s := ⟨⟨h.used.1, by have := h.used; omega⟩, h.mix, h.bs⟩
theorem StmB.next {K : Int} {s : Stm} (h : StmB K s) (hK : K <= 1000000000000000) (n : Int) : StmB (K + 1) (CP s n) := by
 unfold CP
 cases hi : idle s n with
 | true => exact h.mono (by omega)
 | false =>
  obtain ⟨_, hb⟩ := BCN hi
  have hu := h.used
  have e : wr (s.used + 1) = s.used + 1 := NU (by omega) (by omega)
  refine ⟨?_, AOS h hK hb, h.bs⟩
  show 0 <= wr (s.used + 1) /\ wr (s.used + 1) <= K + 1
  rw [e]; omega
theorem SV {K : Int} {s : Stm} (h : StmB K s) (hK : K <= 1000000000000000) (n : Int) : 0 <= BZ s n /\ (1 <= n -> BZ s n < n) := by
 unfold BZ
 cases hi : idle s n with
 | true => exact ⟨Int.le_refl _, λ h => by show (0 : Int) < n; omega⟩
 | false =>
  obtain ⟨hn, hb⟩ := BCN hi
  have h1 := AQT h hK hb
  have h2 := AOS h hK hb
  have e1 : wr (256 * ZO s) = 256 * ZO s := NU (by omega) (by omega)
  have e2 : wr (256 * ZO s + Vu s) = 256 * ZO s + Vu s := NU (by omega) (by omega)
  rw [e1, e2]
  have := AOD (a := if 256 < n then 256 * ZO s + Vu s else ZO s) (b := n) (by split <;> omega) (by omega)
  exact ⟨this.1, λ _ => this.2⟩
theorem tS {K : Int} {s : Stm} (h : StmB K s) (hK : K <= 1000000000000000) {lo hi : Int} (h1 : -1000000000 <= lo) (h2 : lo <= hi) (h3 : hi <= 1000000000) : lo <= Rj s lo hi /\ Rj s lo hi <= hi := by
 have e1 : wr (hi - lo) = hi - lo := NU (by omega) (by omega)
 have e2 : wr (hi - lo + 1) = hi - lo + 1 := NU (by omega) (by omega)
 unfold Rj witN
 rw [e1, e2]
 have := SV h hK (hi - lo + 1)
 have h4 := this.2 (by omega)
 have e3 : wr (lo + BZ s (hi - lo + 1)) = lo + BZ s (hi - lo + 1) := NU (by omega) (by omega)
 rw [e3]; omega
end Go.Bal
