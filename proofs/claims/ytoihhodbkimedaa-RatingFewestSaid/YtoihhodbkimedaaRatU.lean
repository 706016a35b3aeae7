/- Package rating: Rate, Knots. -/
import Derived.Test.YtoihhodbkimedaaRatT
set_option linter.unusedVariables false
set_option linter.unusedSimpArgs false
namespace Go.Bal
open Go Go.Sym Go.Proofs
def C_Rate : Ctr := { C_few with val := λ (g : List Gau) => .tup [.d (eRtg (EK g).r), .int (EK g).e] }
def BDM (g : List Gau) : Prop := CH Try.prog (ann 15 [(XN, C_few.spec Ch)]) BFN (AI BFN) (C_Rate.xs g) (AD []) (C_Rate.val g) [] [] []
abbrev Dj a:=MN a 20
attribute [go_sem] Dj
theorem BJA (g : List Gau) : (BDM g) = (AY (YN g g (Dj (AU g))) (CO (Be g) (Be (AU g))) (CE (Be g) (Be (AU g))) (AT (Bi g) (Bi (AU g))) (AG (λ i=>IZ i (Bi g) (Dr g i) (Dr (AU g) i))) (Ku g (YB (AU g)))) := by kernel_rfl
def C_Knots : Ctr := { C_few with val := λ (g : List Gau) => .tup [.d (eLL (EK g).k), .int (EK g).e] }
def BKI (g : List Gau) : Prop := CH Try.prog (ann 15 [(XN, C_few.spec Ch)]) lD (AI lD) (C_Knots.xs g) (AD []) (C_Knots.val g) [] [] []
abbrev Uj a:=WZ (AU a)
abbrev Ue a b:=VM a (NC b)
attribute [go_sem] Uj Ue
theorem BTM (g : List Gau) : (BKI g) = (AH (YN g g (Dj (AU g))) (Ue (WZ g) (Uj g)) (AG (λ i=>UV i (WZ g) i (KX (Uj g) i))) (Ku g (YB (AU g)))) := by kernel_rfl
theorem BKC : AL Try.prog APX (C_Rate.spec Ch) := Ih C_Rate (λ _ => ann 15 [(XN, C_few.spec Ch)]) [] [] BIE (λ _ => by kernel_rfl) (λ _ => AB AVR AF) (λ (g : List Gau) h => by
 show BDM g; rw [BJA]<;> delta GH HK FK KZ KR LU MC AO AT CX AG CG CM EM DM GP EF GE MO Wb AE AJ AP AU AX AH BH CY BN CL CZ FT GI BB HI CQ DF FC NT DG EN AW AY DE DN EO DY EU FE DV HP FG CE CO MN FB BE An BW QY UF TW SI RU SF SK BR YB Dr Md Be IZ Bi UB Dj Ku YN; simp only [CC, eq_self, implies_true, forall_const]
 exact (show g.length < 20 /\ True from h).1) (λ _ => Jf rfl rfl) _
theorem BPL : AL Try.prog uE (C_Knots.spec Ch) := Ih C_Knots (λ _ => ann 15 [(XN, C_few.spec Ch)]) [] [] APH (λ _ => by kernel_rfl) (λ _ => AB AVR AF) (λ (g : List Gau) h => by
 show BKI g; rw [BTM]<;> delta GH HK FK AO AT CX AG CG CM EM DM GP EF NC KX AE AP AU AX AH BH CY BN CL CZ FT GI BB HI CQ EP DF FC DG EN AW DE DN EO DY VA EU FE DV HP FG CO MN FB BE BW BR WZ LD YB VM UB UV Uj Ue Dj Ku YN; simp only [CC, eq_self, implies_true, forall_const]
 exact (show g.length < 20 /\ True from h).1) (λ _ => Jf rfl rfl) _
end Go.Bal

namespace Go.Bal.DL
open Go.Sym Go
theorem m1 (n : Int) : JD (.v (.int .u8 n)) = n := rfl
end Go.Bal.DL
namespace Go.Bal
open Go Go.Sym Go.Proofs
structure Stm where
 bs : List Int
 used : Int
 mix : Int
 deriving Inhabited
end Go.Bal
namespace Go.Bal.DL
theorem m2 (s : Stm) : Stm.mk s.bs s.used s.mix = s := rfl
end Go.Bal.DL
namespace Go.Bal
open Go Go.Sym Go.Proofs
def eBys (l : List Int) : DVal := lst 1 l.length λ i => .v (.int .u8 (gD l i))
def stmO (s : Stm) : AObj := .box [.d (eBys s.bs), .int s.used, .int s.mix]
def stmH (s : Stm) : HCell := .live (stmO s)
def BDY (H : Heap) (id : Nat) : Option Stm := match H id with
 | .live (.box [.d (.list _ n g _), .d (.v (.int _ u)), .d (.v (.int _ m))]) => some ⟨OC n λ i => JD (g i), u, m⟩
 | _ => none
def C_New : Ctr := { α := List Int, xs := λ l => [.d (eBys l)], L := λ _ => [], val := λ _ => .bptr 0 0, keep := λ l => [(0, stmH ⟨l, 0, 0⟩)] }
def BYG : List AVal -> Heap -> Option (List Int × List (Nat × Nat) × List Nat)
 | [.d (.list _ n g _)], _ => some (OC n λ i => JD (g i), [], [])
 | _, _ => none
def BYI (l : List Int) : Prop := CH Try.prog (ann 6 []) BOV (AI BOV) (C_New.xs l) (AD []) (C_New.val l) (C_New.keep l) [(0, 2032)] []
theorem CDP (l : List Int) : (BYI l) = (And (GN l) (Bu (LL l) Aj)) := by kernel_rfl
def Ct (s : Stm) : Int := if s.bs.length <= s.used then wr (wr (gD s.bs (s.used.tmod s.bs.length).toNat) + wr (wr (11 * s.mix) + wr (s.used.tdiv s.bs.length))) else wr (gD s.bs (s.used.tmod s.bs.length).toNat)
def bU (s : Stm) : Int := (wr (wr (wr (5 * s.mix) + Ct s) + 1)).tmod 251
def idle (s : Stm) (n : Int) : Bool := if n < 2 then true else decide (s.bs.length = 0)
def BG (s : Stm) (n : Int) : Stm := if idle s n then s else ⟨s.bs, wr (s.used + 1), bU s⟩
def AV (s : Stm) (n : Int) : Int := if idle s n then 0 else (if 256 < n then wr (wr (256 * Ct s) + bU s) else Ct s).tmod n
structure SN where
 s : Stm
 n : Int
def C_Next : Ctr := { α := SN, xs := λ a => [.bptr 100 0, .int a.n], L := λ a => [(100, stmO a.s)], val := λ a => .int (AV a.s a.n), keep := λ a => [(100, stmH (BG a.s a.n))], pre := λ a => [0 <= a.s.used] }
def AXB : List AVal -> Heap -> Option (SN × List (Nat × Nat) × List Nat)
 | [.bptr p _, .d (.v (.int _ n))], H => match BDY H p with
  | some s => some (⟨s, n⟩, [(100, p)], [])
  | none => none
 | _, _ => none
def BRM : Ann := { ann 92 [] with E := [100] }
def BQX (a : SN) : Prop := CH Try.prog BRM BEL (AI BEL) (C_Next.xs a) (AD (C_Next.L a)) (C_Next.val a) (C_Next.keep a) [] []
abbrev Jk:=SN.n
abbrev bO:=Stm.bs
abbrev XR:=SN.s
abbrev bX:=AV
abbrev Xk:=Stm.used
abbrev gV:=Stm.mix
abbrev pL a b:=AO (gV a) b
abbrev AIB a:=gV (XR a)
abbrev dB a b c:=ACY a (AIB b) c
abbrev VZ a:=CX (bO a)
abbrev Ud a:=BK (VZ (XR a))
abbrev Qv a:=Xk (XR a)
abbrev APR a b:=zG (Qv a) (Ud b)
abbrev Su a b c:=cZ (bO (XR a)) (APR b c)
abbrev RV a:=BG (XR a) (Jk a)
abbrev pI a b:=AO (Xk a) b
abbrev AAW a b c d:=ZI a b (bO c) a d
abbrev oA a b c:=AG (λ i=>AAW i a b (bO c))
abbrev FZ a b:=oA (VZ a) a b
abbrev AAI a b:=AT a (VZ b)
abbrev LQ a b:=AAI (VZ a) b
abbrev lM a:=Qa (CD a)
abbrev MZ a b:=pL a (gV b)
abbrev NA a b:=pI a (Xk b)
attribute [go_sem] Jk bO XR bX Xk gV pL AIB dB VZ Ud Qv APR Su RV pI AAW oA FZ AAI LQ lM MZ NA
theorem BWO (a : SN) : (BQX a) = (FA (RC (KN (Jk a) 2) (MJ (Ud a))) (AJ (CD (bX (XR a) (Jk a))) (LQ (RV a) (XR a)) (FZ (RV a) (XR a)) (NA (RV a) (XR a)) (MZ (RV a) (XR a))) (BC (AE (Bm (Ud a)) (CA (APR a a)) (DT (APR a a) (Ud a))) (hd6 (Qv a) (Ud a)) (HM (Qa (CN (VZ (XR a)))) (Tb 251) (ZR (Jk a) 256) (AY (lM (Jk a)) (AO (bX (XR a) (Jk a)) (zG (DK (TH 256 (DK (DR (Su a a a)) (dB 11 a (jR (Qv a) (Ud a))))) (zG (DP (DK (TH 5 (AIB a)) (DK (DR (Su a a a)) (dB 11 a (jR (Qv a) (Ud a)))))) 251)) (Jk a))) (LQ (RV a) (XR a)) (FZ (RV a) (XR a)) (pI (RV a) (DP (Qv a))) (pL (RV a) (zG (DP (DK (TH 5 (AIB a)) (DK (DR (Su a a a)) (dB 11 a (jR (Qv a) (Ud a)))))) 251))) (AY (lM (Jk a)) (AO (bX (XR a) (Jk a)) (zG (DK (DR (Su a a a)) (dB 11 a (jR (Qv a) (Ud a)))) (Jk a))) (LQ (RV a) (XR a)) (FZ (RV a) (XR a)) (pI (RV a) (DP (Qv a))) (pL (RV a) (zG (DP (DK (TH 5 (AIB a)) (DK (DR (Su a a a)) (dB 11 a (jR (Qv a) (Ud a)))))) 251)))) (BC (Tb 251) (ZR (Jk a) 256) (AY (lM (Jk a)) (AO (bX (XR a) (Jk a)) (zG (DK (TH 256 (DR (Su a a a))) (zG (DP (dB 5 a (Su a a a))) 251)) (Jk a))) (LQ (RV a) (XR a)) (FZ (RV a) (XR a)) (pI (RV a) (DP (Qv a))) (pL (RV a) (zG (DP (dB 5 a (Su a a a))) 251))) (AY (lM (Jk a)) (AO (bX (XR a) (Jk a)) (zG (DR (Su a a a)) (Jk a))) (LQ (RV a) (XR a)) (FZ (RV a) (XR a)) (pI (RV a) (DP (Qv a))) (pL (RV a) (zG (DP (dB 5 a (Su a a a))) 251)))))) := by kernel_rfl
def witN (lo hi : Int) : Int := wr (wr (hi - lo) + 1)
def HR (s : Stm) (lo hi : Int) : Int := wr (lo + AV s (witN lo hi))
def bK (s : Stm) (lo hi : Int) : Stm := BG s (witN lo hi)
structure SW where
 s : Stm
 lo : Int
 hi : Int
def C_Within : Ctr := { α := SW, xs := λ a => [.bptr 100 0, .int a.lo, .int a.hi], L := λ a => [(100, stmO a.s)], val := λ a => .int (HR a.s a.lo a.hi), keep := λ a => [(100, stmH (bK a.s a.lo a.hi))], pre := λ a => [0 <= a.s.used] }
def AQM : List AVal -> Heap -> Option (SW × List (Nat × Nat) × List Nat)
 | [.bptr p _, .d (.v (.int _ n)), .d (.v (.int _ m))], H => match BDY H p with
  | some s => some (⟨s, n, m⟩, [(100, p)], [])
  | none => none
 | _, _ => none
def BAC : Ann := { ann 15 [(AOX, C_Next.spec AXB)] with E := [100] }
def BAZ (a : SW) : Prop := CH Try.prog BAC AOP (AI AOP) (C_Within.xs a) (AD (C_Within.L a)) (C_Within.val a) (C_Within.keep a) [] []
abbrev jC:=SW.hi
abbrev cM:=SW.lo
abbrev cI:=SW.s
abbrev pN:=Stm.mk
abbrev yB a b:=KC a (bO b)
abbrev ABL a b:=pN (yB a b) (Xk b) (gV b)
abbrev AJV a b c:=BG (ABL a b) c
abbrev AIS a b c:=AJV (VZ a) b c
abbrev WA a b:=AIS a a b
abbrev Y3 a:=ABL (VZ a) a
abbrev QI a b:=bX (Y3 a) b
abbrev PO a:=Int.NonNeg (Ah (Xk a) 0)
abbrev ER a:=AK (gV a)
abbrev ET a:=AK (Xk a)
abbrev nD a b c d:=AY a b c (ET d) (ER d) (PO d)
abbrev Px a b:=CE a (bO b)
abbrev GZ a:=Px (yB (VZ a) a) a
abbrev Hs a b c:=nD a b (GZ c) c
abbrev FX a:=BB (yB (VZ a) a) (VZ a)
attribute [go_sem] jC cM cI pN yB ABL AJV AIS WA Y3 QI PO ER ET nD Px GZ Hs FX
theorem BLP (a : SW) : (BAZ a) = (AY (Hs (AK (gR (jC a) (cM a))) (FX (cI a)) (cI a)) (AO (HR (cI a) (cM a) (jC a)) (DK (cM a) (QI (cI a) (gR (jC a) (cM a))))) (LQ (bK (cI a) (cM a) (jC a)) (WA (cI a) (gR (jC a) (cM a)))) (FZ (bK (cI a) (cM a) (jC a)) (WA (cI a) (gR (jC a) (cM a)))) (NA (bK (cI a) (cM a) (jC a)) (WA (cI a) (gR (jC a) (cM a)))) (MZ (bK (cI a) (cM a) (jC a)) (WA (cI a) (gR (jC a) (cM a))))) := by kernel_rfl
theorem CGT (l : List Int) : BYI l := by
 rw [CDP]<;> delta AO AT CX AG CG CM EM YC AE AP AK Bu BO CZ MX Ma GN Ir LL FH Aj; exact ⟨rfl, λ _ _ => rfl, rfl, rfl⟩
theorem BPD : AL Try.prog BPQ (C_New.spec BYG) := Ih C_New (λ _ => ann 6 []) [(0, 2032)] [] CDM (λ _ => by kernel_rfl) (λ _ => AF) (λ l _ => CGT l) (λ _ => Jf rfl rfl) _
theorem CEI (s : Stm) (n : Int) : (bif decide (n < 2) then true else (s.bs.length : Int) == 0) = idle s n := by
 unfold idle
 by_cases h : n < 2
 ·simp [h]
 ·simp only [h, decide_false, cond_false, if_false]
  by_cases h2 : s.bs.length = 0
  ·simp [h2]
  ·have : ¬ (s.bs.length : Int) = 0 := by omega
   simp [h2]
theorem BUW {a b : Int} (ha : 0 <= a) (hb : 0 < b) : 0 <= a.tmod b /\ a.tmod b < b := by
 rw [Int.tmod_eq_emod_of_nonneg ha]
 exact ⟨Int.emod_nonneg _ (by omega), Int.emod_lt_of_pos _ hb⟩
theorem CCC (a : SN) (h : 0 <= a.s.used) : BQX a := by
 rw [BWO]<;> delta hd5 hd6 KN PN FA AO ZR AT CX AG CG CM EM BK DW DT QP PD RO YC WQ zG jR Tg TU GF Jk bO XR bX Xk gV AE VZ AJ AP DR DK CA DP FT xE GI ED HI AY ZI CD AAW pL AAI pI MZ LQ FH NA BC oA FZ TH CN RC Qv Ud HM ACY RV cZ MJ Qa AIB Bm APR Su dB Tb lM; simp only [CC, eq_self, implies_true, forall_const, CEI]
 refine ⟨λ hi => ?_, λ hi => ?_⟩
 ·have e1 : AV a.s a.n = 0 := by unfold AV; rw [hi]; rfl
  have e2 : BG a.s a.n = a.s := by unfold BG; rw [hi]; rfl
  rw [e1, e2]; exact ⟨rfl, rfl, λ _ _ => rfl, rfl, rfl⟩
 have hi2 : ¬ a.n < 2 /\ ¬ a.s.bs.length = 0 := by
  unfold idle at hi
  by_cases x : a.n < 2
  ·rw [if_pos x] at hi; cases hi
  ·rw [if_neg x] at hi; exact ⟨x, by simpa using hi⟩
 obtain ⟨i1, i2⟩ := hi2
 have e1 : AV a.s a.n = (if 256 < a.n then wr (wr (256 * Ct a.s) + bU a.s) else Ct a.s).tmod a.n := by unfold AV; rw [hi]; rfl
 have e2 : BG a.s a.n = ⟨a.s.bs, wr (a.s.used + 1), bU a.s⟩ := by unfold BG; rw [hi]; rfl
 have hm := BUW h (show 0 < (a.s.bs.length : Int) by omega)
 rw [e1, e2]
 refine ⟨⟨by omega, hm⟩, λ hu => ⟨by omega, by decide, λ hn => ⟨by omega, ?_⟩, λ hn => ⟨by omega, ?_⟩⟩, λ hu => ⟨by decide, λ hn => ⟨by omega, ?_⟩, λ hn => ⟨by omega, ?_⟩⟩⟩
 ·rw [if_pos (by omega)]; unfold bU Ct; rw [if_pos (by omega)]; exact ⟨rfl, rfl, λ _ _ => rfl, rfl, rfl⟩
 ·rw [if_neg (by omega)]; unfold bU Ct; rw [if_pos (by omega)]; exact ⟨rfl, rfl, λ _ _ => rfl, rfl, rfl⟩
 ·rw [if_pos (by omega)]; unfold bU Ct; rw [if_neg (by omega)]; exact ⟨rfl, rfl, λ _ _ => rfl, rfl, rfl⟩
 ·rw [if_neg (by omega)]; unfold bU Ct; rw [if_neg (by omega)]; exact ⟨rfl, rfl, λ _ _ => rfl, rfl, rfl⟩
theorem AKY : AL Try.prog AOX (C_Next.spec AXB) := Ih C_Next (λ _ => BRM) [] [] BVS (λ _ => by kernel_rfl) (λ _ => AF) (λ a h => CCC a h) (λ _ => Jf rfl rfl) _
theorem BNY (a : SW) (h : 0 <= a.s.used) : BAZ a := by
 rw [BLP]<;> delta AO AT CX AG CG CM EM QP PD RO PQ Ah bO bX Xk gV jC cM cI pN KK AE VZ KC yB AJ AP DR AK ABL AJV DK AIS TA CZ DP FT GI gR BB WA Y3 HI FC AY QI ZI AAW HP CE pL AAI pI MZ LQ NA Px oA ER ET FZ GZ FX PO nD Hs; simp only [CC, eq_self, implies_true, forall_const]
 exact ⟨h, rfl, rfl, λ _ _ => rfl, rfl, rfl⟩
theorem AEL : AL Try.prog AAS (C_Within.spec AQM) := Ih C_Within (λ _ => BAC) [] [] BLX (λ _ => by kernel_rfl) (λ _ => AB AKY AF) (λ a h => BNY a h) (λ _ => Jf rfl rfl) _
structure StmB (K : Int) (s : Stm) : Prop where
 used : 0 <= s.used /\ s.used <= K
 mix : 0 <= s.mix /\ s.mix < 251
 bs : ∀ i, i < s.bs.length -> 0 <= gD s.bs i /\ gD s.bs i <= 255
theorem AXG {a b : Int} (ha : 0 <= a) (hb : 0 < b) : 0 <= a.tmod b /\ a.tmod b < b := by
 rw [Int.tmod_eq_emod_of_nonneg ha]
 exact ⟨Int.emod_nonneg _ (by omega), Int.emod_lt_of_pos _ hb⟩
theorem BBX {K : Int} {s : Stm} (h : StmB K s) (hK : K <= 1000000000000000) (hb : s.bs.length ≠ 0) : 0 <= Ct s /\ Ct s <= 1000000000010000 := by
 have hu := h.used
 have hm := h.mix
 have hi := AXG hu.1 (show 0 < (s.bs.length : Int) by omega)
 have hx := h.bs (s.used.tmod s.bs.length).toNat (by omega)
 have hq : 0 <= s.used.tdiv s.bs.length /\ s.used.tdiv s.bs.length <= 1000000000000000 := by
  rw [Int.tdiv_eq_ediv_of_nonneg hu.1]
  refine ⟨Int.ediv_nonneg hu.1 (by omega), ?_⟩
  have := Int.ediv_le_self (s.bs.length : Int) hu.1
  omega
 have e0 : wr (gD s.bs (s.used.tmod s.bs.length).toNat) = gD s.bs (s.used.tmod s.bs.length).toNat := LS (by omega) (by omega)
 have e1 : wr (11 * s.mix) = 11 * s.mix := LS (by omega) (by omega)
 have e2 : wr (s.used.tdiv s.bs.length) = s.used.tdiv s.bs.length := LS (by omega) (by omega)
 have e3 : wr (11 * s.mix + s.used.tdiv s.bs.length) = 11 * s.mix + s.used.tdiv s.bs.length := LS (by omega) (by omega)
 have e4 : wr (gD s.bs (s.used.tmod s.bs.length).toNat + (11 * s.mix + s.used.tdiv s.bs.length)) = gD s.bs (s.used.tmod s.bs.length).toNat + (11 * s.mix + s.used.tdiv s.bs.length) := LS (by omega) (by omega)
 unfold Ct
 rw [e0, e1, e2, e3, e4]
 split <;> omega
theorem BCH {K : Int} {s : Stm} (h : StmB K s) (hK : K <= 1000000000000000) (hb : s.bs.length ≠ 0) : 0 <= bU s /\ bU s < 251 := by
 have hm := h.mix
 have hn := BBX h hK hb
 have e1 : wr (5 * s.mix) = 5 * s.mix := LS (by omega) (by omega)
 have e2 : wr (5 * s.mix + Ct s) = 5 * s.mix + Ct s := LS (by omega) (by omega)
 have e3 : wr (5 * s.mix + Ct s + 1) = 5 * s.mix + Ct s + 1 := LS (by omega) (by omega)
 unfold bU
 rw [e1, e2, e3]
 exact AXG (by omega) (by omega)
theorem BTN {s : Stm} {n : Int} (h : idle s n = false) : 2 <= n /\ s.bs.length ≠ 0 := by
 unfold idle at h
 by_cases x : n < 2
 ·rw [if_pos x] at h; cases h
 ·rw [if_neg x] at h; exact ⟨by omega, by simpa using h⟩
theorem StmB.mono {K M : Int} {s : Stm} (h : StmB K s) (hK : K <= M) : StmB M s := ⟨⟨h.used.1, by have := h.used; omega⟩, h.mix, h.bs⟩
theorem StmB.next {K : Int} {s : Stm} (h : StmB K s) (hK : K <= 1000000000000000) (n : Int) : StmB (K + 1) (BG s n) := by
 unfold BG
 cases hi : idle s n with
 | true => exact h.mono (by omega)
 | false =>
  obtain ⟨_, hb⟩ := BTN hi
  have hu := h.used
  have e : wr (s.used + 1) = s.used + 1 := LS (by omega) (by omega)
  refine ⟨?_, BCH h hK hb, h.bs⟩
  show 0 <= wr (s.used + 1) /\ wr (s.used + 1) <= K + 1
  rw [e]; omega
theorem NF {K : Int} {s : Stm} (h : StmB K s) (hK : K <= 1000000000000000) (n : Int) : 0 <= AV s n /\ (1 <= n -> AV s n < n) := by
 unfold AV
 cases hi : idle s n with
 | true => exact ⟨Int.le_refl _, λ h => by show (0 : Int) < n; omega⟩
 | false =>
  obtain ⟨hn, hb⟩ := BTN hi
  have h1 := BBX h hK hb
  have h2 := BCH h hK hb
  have e1 : wr (256 * Ct s) = 256 * Ct s := LS (by omega) (by omega)
  have e2 : wr (256 * Ct s + bU s) = 256 * Ct s + bU s := LS (by omega) (by omega)
  rw [e1, e2]
  have := AXG (a := if 256 < n then 256 * Ct s + bU s else Ct s) (b := n) (by split <;> omega) (by omega)
  exact ⟨this.1, λ _ => this.2⟩
theorem bT {K : Int} {s : Stm} (h : StmB K s) (hK : K <= 1000000000000000) {lo hi : Int} (h1 : -1000000000 <= lo) (h2 : lo <= hi) (h3 : hi <= 1000000000) : lo <= HR s lo hi /\ HR s lo hi <= hi := by
 have e1 : wr (hi - lo) = hi - lo := LS (by omega) (by omega)
 have e2 : wr (hi - lo + 1) = hi - lo + 1 := LS (by omega) (by omega)
 unfold HR witN
 rw [e1, e2]
 have := NF h hK (hi - lo + 1)
 have h4 := this.2 (by omega)
 have e3 : wr (lo + AV s (hi - lo + 1)) = lo + AV s (hi - lo + 1) := LS (by omega) (by omega)
 rw [e3]; omega
end Go.Bal
