/- Package chart: streams of numbers: New, Next, Within, Pick. -/
import Derived.Test.YtdbjalgfomknhaaChP
set_option linter.unusedVariables false
set_option linter.unusedSimpArgs false
namespace Go.Bal.DL
open Go.Sym Go
theorem m1 (n : Int) : JQ (.v (.int .u8 n)) = n := rfl
end Go.Bal.DL
namespace Go.Bal
open Go Go.Sym Go.Proofs
structure Stm where
 bs : List Int
 used : Int
 mix : Int
 deriving Inhabited
end Go.Bal
namespace Go.Bal.DL
theorem m2 (s : Stm) : Stm.mk s.bs s.used s.mix = s := rfl
end Go.Bal.DL
namespace Go.Bal
open Go Go.Sym Go.Proofs
def eBys (l : List Int) : DVal := lst 1 l.length λ i => .v (.int .u8 (gD l i))
def stmO (s : Stm) : AObj := .box [.d (eBys s.bs), .int s.used, .int s.mix]
def Z2 (s : Stm) : HCell := .live (stmO s)
def BLO (H : Heap) (id : Nat) : Option Stm := match H id with
 | .live (.box [.d (.list _ n g _), .d (.v (.int _ u)), .d (.v (.int _ m))]) => some ⟨HX n λ i => JQ (g i), u, m⟩
 | _ => none
def C_New : Ctr := { α := List Int, xs := λ l => [.d (eBys l)], L := λ _ => [], val := λ _ => .bptr 0 0, keep := λ l => [(0, Z2 ⟨l, 0, 0⟩)] }
def CEU : List AVal -> Heap -> Option (List Int × List (Nat × Nat) × List Nat)
 | [.d (.list _ n g _)], _ => some (HX n λ i => JQ (g i), [], [])
 | _, _ => none
def CFR (l : List Int) : Prop := DN Try.prog (ann 6 []) BVZ (AP BVZ) (C_New.xs l) (AH []) (C_New.val l) (C_New.keep l) [(0, 2032)] []
theorem CIA (l : List Int) : (CFR l) = (And (Ke l) (Fp (AK (λ i=>TK i l (DE l i))) Xt)) := by kernel_rfl
def Ee (s : Stm) : Int := if s.bs.length <= s.used then wr (wr (gD s.bs (s.used.tmod s.bs.length).toNat) + wr (wr (11 * s.mix) + wr (s.used.tdiv s.bs.length))) else wr (gD s.bs (s.used.tmod s.bs.length).toNat)
def eN (s : Stm) : Int := (wr (wr (wr (5 * s.mix) + Ee s) + 1)).tmod 251
def idle (s : Stm) (n : Int) : Bool := if n < 2 then true else decide (s.bs.length = 0)
def AS (s : Stm) (n : Int) : Stm := if idle s n then s else ⟨s.bs, wr (s.used + 1), eN s⟩
def AV (s : Stm) (n : Int) : Int := if idle s n then 0 else (if 256 < n then wr (wr (256 * Ee s) + eN s) else Ee s).tmod n
structure SN where
 s : Stm
 n : Int
def C_Next : Ctr := { α := SN, xs := λ a => [.bptr 100 0, .int a.n], L := λ a => [(100, stmO a.s)], val := λ a => .int (AV a.s a.n), keep := λ a => [(100, Z2 (AS a.s a.n))], pre := λ a => [0 <= a.s.used] }
def BGB : List AVal -> Heap -> Option (SN × List (Nat × Nat) × List Nat)
 | [.bptr p _, .d (.v (.int _ n))], H => match BLO H p with
  | some s => some (⟨s, n⟩, [(100, p)], [])
  | none => none
 | _, _ => none
def BTN : Ann := { ann 92 [] with E := [100] }
def BXZ (a : SN) : Prop := DN Try.prog BTN BMS (AP BMS) (C_Next.xs a) (AH (C_Next.L a)) (C_Next.val a) (C_Next.keep a) [] []
abbrev Kj:=SN.n
abbrev Fo:=Stm.bs
abbrev YU:=SN.s
abbrev Xr:=AV
abbrev Ln:=Stm.used
abbrev Wg:=Stm.mix
abbrev mT:=Int.tmod
abbrev AYV:=Int.tdiv
abbrev fZ a b:=AU (Wg a) b
abbrev BAP a b c:=GG (Km a b) c
abbrev Ns a b c:=BAP a (Wg (YU b)) c
abbrev gQ a b:=DE (Fo a) b
abbrev Yf a:=SZ (Fo (YU a))
abbrev Nw a:=Ln (YU a)
abbrev AZX a b:=mT (Nw a) (Yf b)
abbrev Tp a b c:=IY (gQ (YU a) (JW (AZX b c)))
abbrev UB a:=AS (YU a) (Kj a)
abbrev iH a b:=AU (Ln a) b
abbrev uV a b c:=PP a (Fo b) (gQ b a) c
abbrev WT a b c:=uV a b (gQ c a)
abbrev Fd a b:=AK (λ i=>WT i a b)
abbrev B8 a b:=EM a (Fo b)
abbrev TU a b:=B8 (Fo a) b
abbrev YX a b:=fZ a (Wg b)
abbrev YV a b:=iH a (Ln b)
attribute [go_sem] Kj Fo YU Xr Ln Wg mT AYV fZ BAP Ns gQ Yf Nw AZX Tp UB iH uV WT Fd B8 TU YX YV
theorem CDF (a : SN) : (BXZ a) = (bP (WN (Kj a) 2) (TY (Yf a)) (AN (DK (Xr (YU a) (Kj a))) (TU (UB a) (YU a)) (Fd (UB a) (YU a)) (YV (UB a) (YU a)) (YX (UB a) (YU a))) (EX (AI (OY (Yf a)) (DI (AZX a a)) (FR (AZX a a) (DX (Fo (YU a))))) (hd6 (Nw a) (Yf a)) (AI (CA (CF (DX (Fo (YU a)))) JY) (CA (sD (Aj 251)) JY) (FX (Sb (Kj a) 256) (CE (Ig (Kj a) JY) (AU (Xr (YU a) (Kj a)) (mT (BAP 256 (GG (Tp a a a) (Ns 11 a (IY (AYV (Nw a) (Yf a))))) (mT (EY (Ns 5 a (GG (Tp a a a) (Ns 11 a (IY (AYV (Nw a) (Yf a))))))) 251)) (Kj a))) (TU (UB a) (YU a)) (Fd (UB a) (YU a)) (iH (UB a) (EY (Nw a))) (fZ (UB a) (mT (EY (Ns 5 a (GG (Tp a a a) (Ns 11 a (IY (AYV (Nw a) (Yf a))))))) 251))) (CE (Ig (Kj a) JY) (AU (Xr (YU a) (Kj a)) (mT (GG (Tp a a a) (Ns 11 a (IY (AYV (Nw a) (Yf a))))) (Kj a))) (TU (UB a) (YU a)) (Fd (UB a) (YU a)) (iH (UB a) (EY (Nw a))) (fZ (UB a) (mT (EY (Ns 5 a (GG (Tp a a a) (Ns 11 a (IY (AYV (Nw a) (Yf a))))))) 251))))) (EX (CA (sD (Aj 251)) JY) (Sb (Kj a) 256) (CE (Ig (Kj a) JY) (AU (Xr (YU a) (Kj a)) (mT (BAP 256 (Tp a a a) (mT (EY (Ns 5 a (Tp a a a))) 251)) (Kj a))) (TU (UB a) (YU a)) (Fd (UB a) (YU a)) (iH (UB a) (EY (Nw a))) (fZ (UB a) (mT (EY (Ns 5 a (Tp a a a))) 251))) (CE (Ig (Kj a) JY) (AU (Xr (YU a) (Kj a)) (mT (Tp a a a) (Kj a))) (TU (UB a) (YU a)) (Fd (UB a) (YU a)) (iH (UB a) (EY (Nw a))) (fZ (UB a) (mT (EY (Ns 5 a (Tp a a a))) 251)))))) := by kernel_rfl
def witN (lo hi : Int) : Int := wr (wr (hi - lo) + 1)
def Lf (s : Stm) (lo hi : Int) : Int := wr (lo + AV s (witN lo hi))
def Ce (s : Stm) (lo hi : Int) : Stm := AS s (witN lo hi)
structure SW where
 s : Stm
 lo : Int
 hi : Int
def C_Within : Ctr := { α := SW, xs := λ a => [.bptr 100 0, .int a.lo, .int a.hi], L := λ a => [(100, stmO a.s)], val := λ a => .int (Lf a.s a.lo a.hi), keep := λ a => [(100, Z2 (Ce a.s a.lo a.hi))], pre := λ a => [0 <= a.s.used] }
def BJM : List AVal -> Heap -> Option (SW × List (Nat × Nat) × List Nat)
 | [.bptr p _, .d (.v (.int _ n)), .d (.v (.int _ m))], H => match BLO H p with
  | some s => some (⟨s, n, m⟩, [(100, p)], [])
  | none => none
 | _, _ => none
def BIT : Ann := { ann 15 [(AYW, C_Next.spec BGB)] with E := [100] }
def BLC (a : SW) : Prop := DN Try.prog BIT AYT (AP AYT) (C_Within.xs a) (AH (C_Within.L a)) (C_Within.val a) (C_Within.keep a) [] []
abbrev nF:=SW.hi
abbrev fY:=SW.lo
abbrev Sc:=SW.s
abbrev zI a b:=UZ (Fo a) (Fo b)
abbrev AGW a b c d:=Stm.mk (zI a b) (Ln c) (Wg d)
abbrev AHD a b c d e:=AS (AGW a b c d) e
abbrev Bk a b:=AHD a a a a b
abbrev Gu a b:=Xr (AGW a a a a) b
abbrev XT a:=Int.NonNeg (Ua (Ln a) 0)
abbrev SX a:=AM (Wg a)
abbrev TG a:=AM (Ln a)
abbrev TX a:=AK (λ i=>XH i (zI a a) (gQ a i))
abbrev TV a:=B8 (zI a a) a
attribute [go_sem] nF fY Sc zI AGW AHD Bk Gu XT SX TG TX TV
theorem BTC (a : SW) : (BLC a) = (EG (AM (EY (KY (nF a) (fY a)))) (TV (Sc a)) (TX (Sc a)) (TG (Sc a)) (SX (Sc a)) (XT (Sc a)) (AN (AU (Lf (Sc a) (fY a) (nF a)) (GG (fY a) (Gu (Sc a) (EY (KY (nF a) (fY a)))))) (TU (Ce (Sc a) (fY a) (nF a)) (Bk (Sc a) (EY (KY (nF a) (fY a))))) (Fd (Ce (Sc a) (fY a) (nF a)) (Bk (Sc a) (EY (KY (nF a) (fY a))))) (YV (Ce (Sc a) (fY a) (nF a)) (Bk (Sc a) (EY (KY (nF a) (fY a))))) (YX (Ce (Sc a) (fY a) (nF a)) (Bk (Sc a) (EY (KY (nF a) (fY a))))))) := by kernel_rfl
theorem COA (l : List Int) : CFR l := by
 rw [CIA]<;> delta CL AK CA DD AU Aj DX DE AI BK AM Fp BV LU Ke TK LM sD Xt; exact ⟨rfl, λ _ _ => rfl, rfl, rfl⟩
theorem BNB : AR Try.prog CAZ (C_New.spec CEU) := Jp C_New (λ _ => ann 6 []) [(0, 2032)] [] CJS (λ _ => by kernel_rfl) (λ _ => AL) (λ l _ => COA l) (λ _ => Mi rfl rfl) _
theorem CIO (s : Stm) (n : Int) : (bif decide (n < 2) then true else (s.bs.length : Int) == 0) = idle s n := by
 unfold idle
 by_cases h : n < 2
 ·simp [h]
 ·simp only [h, decide_false, cond_false, if_false]
  by_cases h2 : s.bs.length = 0
  ·simp [h2]
  ·have : ¬ (s.bs.length : Int) = 0 := by omega
   simp [h2]
theorem CDA {a b : Int} (ha : 0 <= a) (hb : 0 < b) : 0 <= a.tmod b /\ a.tmod b < b := by
 rw [Int.tmod_eq_emod_of_nonneg ha]
 exact ⟨Int.emod_nonneg _ (by omega), Int.emod_lt_of_pos _ hb⟩
theorem CJH (a : SN) (h : 0 <= a.s.used) : BXZ a := by
 rw [CDF]<;> delta hd6 TP WF CL AK CA DD AU BW Aj FX WN KZ KB XF Ye PB Sb JW JY DX DE uU Kj Fo YU Xr Ln Wg mT AYV AI AN BK IY GG LU KR GU EY FR gQ EM DI B8 PP DK TU uV fZ iH YX YV SZ CE WT EX CF Km LM Nw Gm Yf TY UB BAP Ig AZX bP OY Ns Fd Tp sD; simp only [CC, eq_self, implies_true, forall_const, CIO]
 refine ⟨λ hi => ?_, λ hi => ?_⟩
 ·have e1 : AV a.s a.n = 0 := by unfold AV; rw [hi]; rfl
  have e2 : AS a.s a.n = a.s := by unfold AS; rw [hi]; rfl
  rw [e1, e2]; exact ⟨rfl, rfl, λ _ _ => rfl, rfl, rfl⟩
 have hi2 : ¬ a.n < 2 /\ ¬ a.s.bs.length = 0 := by
  unfold idle at hi
  by_cases x : a.n < 2
  ·rw [if_pos x] at hi; cases hi
  ·rw [if_neg x] at hi; exact ⟨x, by simpa using hi⟩
 obtain ⟨i1, i2⟩ := hi2
 have e1 : AV a.s a.n = (if 256 < a.n then wr (wr (256 * Ee a.s) + eN a.s) else Ee a.s).tmod a.n := by unfold AV; rw [hi]; rfl
 have e2 : AS a.s a.n = ⟨a.s.bs, wr (a.s.used + 1), eN a.s⟩ := by unfold AS; rw [hi]; rfl
 have hm := CDA h (show 0 < (a.s.bs.length : Int) by omega)
 rw [e1, e2]
 refine ⟨⟨by omega, hm⟩, λ hu => ⟨by omega, by decide, λ hn => ⟨by omega, ?_⟩, λ hn => ⟨by omega, ?_⟩⟩, λ hu => ⟨by decide, λ hn => ⟨by omega, ?_⟩, λ hn => ⟨by omega, ?_⟩⟩⟩
 ·rw [if_pos (by omega)]; unfold eN Ee; rw [if_pos (by omega)]; exact ⟨rfl, rfl, λ _ _ => rfl, rfl, rfl⟩
 ·rw [if_neg (by omega)]; unfold eN Ee; rw [if_pos (by omega)]; exact ⟨rfl, rfl, λ _ _ => rfl, rfl, rfl⟩
 ·rw [if_pos (by omega)]; unfold eN Ee; rw [if_neg (by omega)]; exact ⟨rfl, rfl, λ _ _ => rfl, rfl, rfl⟩
 ·rw [if_neg (by omega)]; unfold eN Ee; rw [if_neg (by omega)]; exact ⟨rfl, rfl, λ _ _ => rfl, rfl, rfl⟩
theorem AFF : AR Try.prog AYW (C_Next.spec BGB) := Jp C_Next (λ _ => BTN) [] [] CCZ (λ _ => by kernel_rfl) (λ _ => AL) (λ a h => CJH a h) (λ _ => Mi rfl rfl) _
theorem BYE (a : SW) (h : 0 <= a.s.used) : BLC a := by
 rw [BTC]<;> delta TP WF Ua CL AK CA DD AU XF DX DE NJ Fo Xr Ln Wg nF fY Sc AI AN XE BK AM UZ IY zI GG LU AGW GU AHD EY gQ EM BZ KY B8 Bk PP QC TU uV XH fZ iH YX YV WT Gu EG SX TG TV TX XT Fd; simp only [CC, eq_self, implies_true, forall_const]
 exact ⟨h, rfl, rfl, λ _ _ => rfl, rfl, rfl⟩
theorem BDR : AR Try.prog AZI (C_Within.spec BJM) := Jp C_Within (λ _ => BIT) [] [] BTB (λ _ => by kernel_rfl) (λ _ => AC AFF AL) (λ a h => BYE a h) (λ _ => Mi rfl rfl) _
structure StmB (K : Int) (s : Stm) : Prop where
 used : 0 <= s.used /\ s.used <= K
 mix : 0 <= s.mix /\ s.mix < 251
 bs : ∀ i, i < s.bs.length -> 0 <= gD s.bs i /\ gD s.bs i <= 255
theorem BFE {a b : Int} (ha : 0 <= a) (hb : 0 < b) : 0 <= a.tmod b /\ a.tmod b < b := by
 rw [Int.tmod_eq_emod_of_nonneg ha]
 exact ⟨Int.emod_nonneg _ (by omega), Int.emod_lt_of_pos _ hb⟩
theorem BJQ {K : Int} {s : Stm} (h : StmB K s) (hK : K <= 1000000000000000) (hb : s.bs.length ≠ 0) : 0 <= Ee s /\ Ee s <= 1000000000010000 := by
 have hu := h.used
 have hm := h.mix
 have hi := BFE hu.1 (show 0 < (s.bs.length : Int) by omega)
 have hx := h.bs (s.used.tmod s.bs.length).toNat (by omega)
 have hq : 0 <= s.used.tdiv s.bs.length /\ s.used.tdiv s.bs.length <= 1000000000000000 := by
  rw [Int.tdiv_eq_ediv_of_nonneg hu.1]
  refine ⟨Int.ediv_nonneg hu.1 (by omega), ?_⟩
  have := Int.ediv_le_self (s.bs.length : Int) hu.1
  omega
 have e0 : wr (gD s.bs (s.used.tmod s.bs.length).toNat) = gD s.bs (s.used.tmod s.bs.length).toNat := PE (by omega) (by omega)
 have e1 : wr (11 * s.mix) = 11 * s.mix := PE (by omega) (by omega)
 have e2 : wr (s.used.tdiv s.bs.length) = s.used.tdiv s.bs.length := PE (by omega) (by omega)
 have e3 : wr (11 * s.mix + s.used.tdiv s.bs.length) = 11 * s.mix + s.used.tdiv s.bs.length := PE (by omega) (by omega)
 have e4 : wr (gD s.bs (s.used.tmod s.bs.length).toNat + (11 * s.mix + s.used.tdiv s.bs.length)) = gD s.bs (s.used.tmod s.bs.length).toNat + (11 * s.mix + s.used.tdiv s.bs.length) := PE (by omega) (by omega)
 unfold Ee
 rw [e0, e1, e2, e3, e4]
 split <;> omega
theorem BJA {K : Int} {s : Stm} (h : StmB K s) (hK : K <= 1000000000000000) (hb : s.bs.length ≠ 0) : 0 <= eN s /\ eN s < 251 := by
 have hm := h.mix
 have hn := BJQ h hK hb
 have e1 : wr (5 * s.mix) = 5 * s.mix := PE (by omega) (by omega)
 have e2 : wr (5 * s.mix + Ee s) = 5 * s.mix + Ee s := PE (by omega) (by omega)
 have e3 : wr (5 * s.mix + Ee s + 1) = 5 * s.mix + Ee s + 1 := PE (by omega) (by omega)
 unfold eN
 rw [e1, e2, e3]
 exact BFE (by omega) (by omega)
theorem BUR {s : Stm} {n : Int} (h : idle s n = false) : 2 <= n /\ s.bs.length ≠ 0 := by
 unfold idle at h
 by_cases x : n < 2
 ·rw [if_pos x] at h; cases h
 ·rw [if_neg x] at h; exact ⟨by omega, by simpa using h⟩
theorem StmB.mono {K M : Int} {s : Stm} (h : StmB K s) (hK : K <= M) : StmB M s := ⟨⟨h.used.1, by have := h.used; omega⟩, h.mix, h.bs⟩
theorem StmB.next {K : Int} {s : Stm} (h : StmB K s) (hK : K <= 1000000000000000) (n : Int) : StmB (K + 1) (AS s n) := by
 unfold AS
 cases hi : idle s n with
 | true => exact h.mono (by omega)
 | false =>
  obtain ⟨_, hb⟩ := BUR hi
  have hu := h.used
  have e : wr (s.used + 1) = s.used + 1 := PE (by omega) (by omega)
  refine ⟨?_, BJA h hK hb, h.bs⟩
  show 0 <= wr (s.used + 1) /\ wr (s.used + 1) <= K + 1
  rw [e]; omega
theorem LS {K : Int} {s : Stm} (h : StmB K s) (hK : K <= 1000000000000000) (n : Int) : 0 <= AV s n /\ (1 <= n -> AV s n < n) := by
 unfold AV
 cases hi : idle s n with
 | true => exact ⟨Int.le_refl _, λ h => by show (0 : Int) < n; omega⟩
 | false =>
  obtain ⟨hn, hb⟩ := BUR hi
  have h1 := BJQ h hK hb
  have h2 := BJA h hK hb
  have e1 : wr (256 * Ee s) = 256 * Ee s := PE (by omega) (by omega)
  have e2 : wr (256 * Ee s + eN s) = 256 * Ee s + eN s := PE (by omega) (by omega)
  rw [e1, e2]
  have := BFE (a := if 256 < n then 256 * Ee s + eN s else Ee s) (b := n) (by split <;> omega) (by omega)
  exact ⟨this.1, λ _ => this.2⟩
theorem AGM {K : Int} {s : Stm} (h : StmB K s) (hK : K <= 1000000000000000) {lo hi : Int} (h1 : -1000000000 <= lo) (h2 : lo <= hi) (h3 : hi <= 1000000000) : lo <= Lf s lo hi /\ Lf s lo hi <= hi := by
 have e1 : wr (hi - lo) = hi - lo := PE (by omega) (by omega)
 have e2 : wr (hi - lo + 1) = hi - lo + 1 := PE (by omega) (by omega)
 unfold Lf witN
 rw [e1, e2]
 have := LS h hK (hi - lo + 1)
 have h4 := this.2 (by omega)
 have e3 : wr (lo + AV s (hi - lo + 1)) = lo + AV s (hi - lo + 1) := PE (by omega) (by omega)
 rw [e3]; omega
end Go.Bal
