/- Package chart: streams of numbers: New, Next, Within, Pick. -/
import Derived.Test.YtdbjalgfomknhaaChP
set_option linter.unusedVariables false
set_option linter.unusedSimpArgs false
namespace Go.Bal.DL
open Go.Sym Go
theorem m1 (n : Int) : BV (.v (.int .u8 n)) = n := rfl
end Go.Bal.DL
namespace Go.Bal
open Go Go.Sym Go.Proofs
structure Stm where
 bs : List Int
 used : Int
 mix : Int
 deriving Inhabited
end Go.Bal
namespace Go.Bal.DL
theorem m2 (s : Stm) : Stm.mk s.bs s.used s.mix = s := rfl
end Go.Bal.DL
namespace Go.Bal
open Go Go.Sym Go.Proofs
def eBys (l : List Int) : DVal := lst 1 l.length λ i => .v (.int .u8 (gD l i))
def stmO (s : Stm) : AObj := .box [.d (eBys s.bs), .int s.used, .int s.mix]
def stmH (s : Stm) : HCell := .live (stmO s)
def CVD (H : Heap) (id : Nat) : Option Stm := match H id with
 | .live (.box [.d (.list _ n g _), .d (.v (.int _ u)), .d (.v (.int _ m))]) => some ⟨AF n λ i => BV (g i), u, m⟩
 | _ => none
def C_New : Ctr := { α := List Int, xs := λ l => [.d (eBys l)], L := λ _ => [], val := λ _ => .bptr 0 0, keep := λ l => [(0, stmH ⟨l, 0, 0⟩)] }
def DOD : List AVal -> Heap -> Option (List Int × List (Nat × Nat) × List Nat)
 | [.d (.list _ n g _)], _ => some (AF n λ i => BV (g i), [], [])
 | _, _ => none
def DMQ (l : List Int) : Prop := BA Try.prog (ann 6 []) DBN (AL DBN) (C_New.xs l) (AG []) (C_New.val l) (C_New.keep l) [(0, 2032)] []
theorem DRL (l : List Int) : (DMQ l) = (l.length = l.length /\ (∀ (i : Nat), i < l.length -> gD l i = gD l i) /\ (0 : Int) = Int.ofNat (0 : Nat) /\ (0 : Int) = Int.ofNat (0 : Nat)) := by kernel_rfl
def JT (s : Stm) : Int := if s.bs.length <= s.used then wr (wr (gD s.bs (s.used.tmod s.bs.length).toNat) + wr (wr (11 * s.mix) + wr (s.used.tdiv s.bs.length))) else wr (gD s.bs (s.used.tmod s.bs.length).toNat)
def ZZ (s : Stm) : Int := (wr (wr (wr (5 * s.mix) + JT s) + 1)).tmod 251
def idle (s : Stm) (n : Int) : Bool := if n < 2 then true else decide (s.bs.length = 0)
def AR (s : Stm) (n : Int) : Stm := if idle s n then s else ⟨s.bs, wr (s.used + 1), ZZ s⟩
def AP (s : Stm) (n : Int) : Int := if idle s n then 0 else (if 256 < n then wr (wr (256 * JT s) + ZZ s) else JT s).tmod n
structure SN where
 s : Stm
 n : Int
def C_Next : Ctr := { α := SN, xs := λ a => [.bptr 100 0, .int a.n], L := λ a => [(100, stmO a.s)], val := λ a => .int (AP a.s a.n), keep := λ a => [(100, stmH (AR a.s a.n))], pre := λ a => [0 <= a.s.used] }
def CTV : List AVal -> Heap -> Option (SN × List (Nat × Nat) × List Nat)
 | [.bptr p _, .d (.v (.int _ n))], H => match CVD H p with
  | some s => some (⟨s, n⟩, [(100, p)], [])
  | none => none
 | _, _ => none
def DGF : Ann := { ann 92 [] with E := [100] }
def DCU (a : SN) : Prop := BA Try.prog DGF CTZ (AL CTZ) (C_Next.xs a) (AG (C_Next.L a)) (C_Next.val a) (C_Next.keep a) [] []
abbrev AHG (a : SN) : Prop := (AR a.s a.n).bs.length = a.s.bs.length
abbrev AJC (a : SN) : Prop := ∀ (i : Nat), i < (AR a.s a.n).bs.length -> gD (AR a.s a.n).bs i = gD a.s.bs i
abbrev AHZ (a : SN) : Int := a.s.used.tmod (↑a.s.bs.length : Int)
abbrev BNG : Prop := Int.ofNat (251 : Nat) = Int.ofNat (0 : Nat) -> False
abbrev BSF (a : SN) : Bool := decide (a.n > (256 : Int))
abbrev Uc (a : SN) : Prop := a.n = (0 : Int) -> False
abbrev Rh (a : SN) : Int := IntKind.i64.wrap (gD a.s.bs (AHZ a).toNat)
abbrev AGE (a : SN) : Int := IntKind.i64.wrap (Rh a + IntKind.i64.wrap (IntKind.i64.wrap ((11 : Int) * a.s.mix) + IntKind.i64.wrap (a.s.used.tdiv (↑a.s.bs.length : Int))))
abbrev BYG (a : SN) : Int := IntKind.i64.wrap ((5 : Int) * a.s.mix)
abbrev BUG (a : SN) : Int := (IntKind.i64.wrap (IntKind.i64.wrap (BYG a + AGE a) + (1 : Int))).tmod (251 : Int)
abbrev BFP (a : SN) : Prop := (AR a.s a.n).used = IntKind.i64.wrap (a.s.used + (1 : Int))
abbrev ATC (a : SN) : Prop := AHG a /\ AJC a /\ BFP a /\ (AR a.s a.n).mix = BUG a
abbrev BBW (a : SN) : Int := (IntKind.i64.wrap (IntKind.i64.wrap (BYG a + Rh a) + (1 : Int))).tmod (251 : Int)
abbrev BEF (a : SN) : Prop := AHG a /\ AJC a /\ BFP a /\ (AR a.s a.n).mix = BBW a
theorem DKI (a : SN) : (DCU a) = (bif bif decide (a.n < (2 : Int)) then true else (↑a.s.bs.length : Int) == (0 : Int) then AP a.s a.n = (0 : Int) /\ AHG a /\ AJC a /\ (AR a.s a.n).used = a.s.used /\
 (AR a.s a.n).mix = a.s.mix else ((↑a.s.bs.length : Int) ≠ (0 : Int) /\ (0 : Int) <= AHZ a /\ AHZ a < (↑a.s.bs.length : Int)) /\ bif decide (a.s.used >= (↑a.s.bs.length : Int)) then ((↑a.s.bs.length : Int) = (0 :
 Int) -> False) /\ BNG /\ bif BSF a then Uc a /\ AP a.s a.n = (IntKind.i64.wrap (IntKind.i64.wrap ((256 : Int) * AGE a) + BUG a)).tmod a.n /\ ATC a else Uc a /\ AP a.s a.n = (AGE
 a).tmod a.n /\ ATC a else BNG /\ bif BSF a then Uc a /\ AP a.s a.n = (IntKind.i64.wrap (IntKind.i64.wrap ((256 : Int) * Rh a) + BBW a)).tmod a.n /\ BEF a else Uc a /\ AP a.s
 a.n = (Rh a).tmod a.n /\ BEF a) := by kernel_rfl
def witN (lo hi : Int) : Int := wr (wr (hi - lo) + 1)
def WZ (s : Stm) (lo hi : Int) : Int := wr (lo + AP s (witN lo hi))
def LS (s : Stm) (lo hi : Int) : Stm := AR s (witN lo hi)
structure SW where
 s : Stm
 lo : Int
 hi : Int
def C_Within : Ctr := { α := SW, xs := λ a => [.bptr 100 0, .int a.lo, .int a.hi], L := λ a => [(100, stmO a.s)], val := λ a => .int (WZ a.s a.lo a.hi), keep := λ a => [(100, stmH (LS a.s a.lo a.hi))], pre := λ a => [0 <= a.s.used] }
def CQL : List AVal -> Heap -> Option (SW × List (Nat × Nat) × List Nat)
 | [.bptr p _, .d (.v (.int _ n)), .d (.v (.int _ m))], H => match CVD H p with
  | some s => some (⟨s, n, m⟩, [(100, p)], [])
  | none => none
 | _, _ => none
def CSG : Ann := { ann 15 [(CFG, C_Next.spec CTV)] with E := [100] }
def CQS (a : SW) : Prop := BA Try.prog CSG BXM (AL BXM) (C_Within.xs a) (AG (C_Within.L a)) (C_Within.val a) (C_Within.keep a) [] []
theorem DAS (a : SW) : (CQS a) = ((IntKind.i64.wrap (IntKind.i64.wrap (a.hi - a.lo) + 1) = IntKind.i64.wrap (IntKind.i64.wrap (a.hi - a.lo) + 1) /\ (AF a.s.bs.length λ (i : Nat) => gD a.s.bs i).length =
 a.s.bs.length /\ (∀ (i : Nat), i < (AF a.s.bs.length λ (i : Nat) => gD a.s.bs i).length -> gD (AF a.s.bs.length λ (i : Nat) => gD a.s.bs i) i = gD a.s.bs i) /\ a.s.used = a.s.used /\ a.s.mix = a.s.mix /\ (a.s.used -
 0).NonNeg) /\ WZ a.s a.lo a.hi = IntKind.i64.wrap (a.lo + AP (Stm.mk (AF a.s.bs.length λ (i : Nat) => gD a.s.bs i) a.s.used a.s.mix) (IntKind.i64.wrap (IntKind.i64.wrap (a.hi - a.lo) + 1))) /\ (LS a.s a.lo
 a.hi).bs.length = (AR (Stm.mk (AF a.s.bs.length λ (i : Nat) => gD a.s.bs i) a.s.used a.s.mix) (IntKind.i64.wrap (IntKind.i64.wrap (a.hi - a.lo) + 1))).bs.length /\ (∀ (i : Nat), i < (LS a.s a.lo a.hi).bs.length ->
 gD (LS a.s a.lo a.hi).bs i = gD (AR (Stm.mk (AF a.s.bs.length λ (i : Nat) => gD a.s.bs i) a.s.used a.s.mix) (IntKind.i64.wrap (IntKind.i64.wrap (a.hi - a.lo) + 1))).bs i) /\ (LS a.s a.lo a.hi).used = (AR
 (Stm.mk (AF a.s.bs.length λ (i : Nat) => gD a.s.bs i) a.s.used a.s.mix) (IntKind.i64.wrap (IntKind.i64.wrap (a.hi - a.lo) + 1))).used /\ (LS a.s a.lo a.hi).mix = (AR (Stm.mk (AF a.s.bs.length λ (i : Nat) => gD
 a.s.bs i) a.s.used a.s.mix) (IntKind.i64.wrap (IntKind.i64.wrap (a.hi - a.lo) + 1))).mix) := by kernel_rfl
def QC (v n : Int) : Int := if n < 1 then 0 else if v.tmod n < 0 then wr (v.tmod n + n) else v.tmod n
def DCS (v n : Int) : Prop := BA Try.prog (ann 16 []) CUE (AL CUE) [.int v, .int n] (AG []) (.int (QC v n)) [] [] []
theorem DLR (v : Int) (n : Int) : (DCS v n) = (bif decide (n < 1) then QC v n = 0 else (n = 0 -> False) /\ bif decide (v.tmod n < 0) then QC v n = IntKind.i64.wrap (v.tmod n + n) else QC v n = v.tmod n) :=
 by kernel_rfl
def DIH : List AVal -> Option (AVal × List Prop)
 | [.d (.v (.int .i64 a)), .d (.v (.int .i64 b))] => some (.int (QC a b), [])
 | _ => none
def DHH := aH DIH
theorem DSW (l : List Int) : DMQ l := by
 rw [DRL]; exact ⟨rfl, λ _ _ => rfl, rfl, rfl⟩
theorem DSB : AN Try.prog DEI (C_New.spec DOD) := MB C_New (λ _ => ann 6 []) [(0, 2032)] [] DPR (λ _ => by kernel_rfl) (λ _ => AI) (λ l _ => DSW l) (λ _ => OS rfl rfl) _
theorem DRR (s : Stm) (n : Int) : (bif decide (n < 2) then true else (s.bs.length : Int) == 0) = idle s n := by
 unfold idle
 by_cases h : n < 2
 ·simp [h]
 ·simp only [h, decide_false, cond_false, if_false]
  by_cases h2 : s.bs.length = 0
  ·simp [h2]
  ·have : ¬ (s.bs.length : Int) = 0 := by omega
   simp [h2]
theorem DJL {a b : Int} (ha : 0 <= a) (hb : 0 < b) : 0 <= a.tmod b /\ a.tmod b < b := by
 rw [Int.tmod_eq_emod_of_nonneg ha]
 exact ⟨Int.emod_nonneg _ (by omega), Int.emod_lt_of_pos _ hb⟩
theorem DSF (a : SN) (h : 0 <= a.s.used) : DCU a := by
 rw [DKI]; delta AHG AJC AHZ BNG BSF Uc Rh AGE BYG BUG BFP ATC BBW BEF; simp only [AU, eq_self, implies_true, and_self, true_and, and_true, true_implies, forall_const, decide_eq_true_eq, decide_eq_false_iff_not, Int.toNat_natCast, dSpan_eSpan, dInt_eInt, AY, AW, AX, Nat.zero_add, Int.zero_sub, Nat.le_eq, Nat.succ_eq_add_one, Nat.add_one_le_iff, Bool.not_eq_true', Bool.not_eq_false', rng_length, AK, AJ, DRR]
 refine ⟨λ hi => ?_, λ hi => ?_⟩
 ·have e1 : AP a.s a.n = 0 := by unfold AP; rw [hi]; rfl
  have e2 : AR a.s a.n = a.s := by unfold AR; rw [hi]; rfl
  rw [e1, e2]; exact ⟨rfl, rfl, λ _ _ => rfl, rfl, rfl⟩
 have hi2 : ¬ a.n < 2 /\ ¬ a.s.bs.length = 0 := by
  unfold idle at hi
  by_cases x : a.n < 2
  ·rw [if_pos x] at hi; cases hi
  ·rw [if_neg x] at hi; exact ⟨x, by simpa using hi⟩
 obtain ⟨i1, i2⟩ := hi2
 have e1 : AP a.s a.n = (if 256 < a.n then wr (wr (256 * JT a.s) + ZZ a.s) else JT a.s).tmod a.n := by unfold AP; rw [hi]; rfl
 have e2 : AR a.s a.n = ⟨a.s.bs, wr (a.s.used + 1), ZZ a.s⟩ := by unfold AR; rw [hi]; rfl
 have hm := DJL h (show 0 < (a.s.bs.length : Int) by omega)
 rw [e1, e2]
 refine ⟨⟨by omega, hm⟩, λ hu => ⟨by omega, by decide, λ hn => ⟨by omega, ?_⟩, λ hn => ⟨by omega, ?_⟩⟩, λ hu => ⟨by decide, λ hn => ⟨by omega, ?_⟩, λ hn => ⟨by omega, ?_⟩⟩⟩
 ·rw [if_pos (by omega)]; unfold ZZ JT; rw [if_pos (by omega)]; exact ⟨rfl, rfl, λ _ _ => rfl, rfl, rfl⟩
 ·rw [if_neg (by omega)]; unfold ZZ JT; rw [if_pos (by omega)]; exact ⟨rfl, rfl, λ _ _ => rfl, rfl, rfl⟩
 ·rw [if_pos (by omega)]; unfold ZZ JT; rw [if_neg (by omega)]; exact ⟨rfl, rfl, λ _ _ => rfl, rfl, rfl⟩
 ·rw [if_neg (by omega)]; unfold ZZ JT; rw [if_neg (by omega)]; exact ⟨rfl, rfl, λ _ _ => rfl, rfl, rfl⟩
theorem CZO : AN Try.prog CFG (C_Next.spec CTV) := MB C_Next (λ _ => DGF) [] [] DJF (λ _ => by kernel_rfl) (λ _ => AI) (λ a h => DSF a h) (λ _ => OS rfl rfl) _
theorem DBG (a : SW) (h : 0 <= a.s.used) : CQS a := by
 rw [DAS]; simp only [AU, eq_self, implies_true, and_self, true_and, and_true, true_implies, forall_const, decide_eq_true_eq, decide_eq_false_iff_not, Int.toNat_natCast, dSpan_eSpan, dInt_eInt, AY, AW, AX, Nat.zero_add, Int.zero_sub, Nat.le_eq, Nat.succ_eq_add_one, Nat.add_one_le_iff, Bool.not_eq_true', Bool.not_eq_false', rng_length, AK, AJ]
 exact ⟨h, rfl, rfl, λ _ _ => rfl, rfl, rfl⟩
theorem CZZ : AN Try.prog CCS (C_Within.spec CQL) := MB C_Within (λ _ => CSG) [] [] DAH (λ _ => by kernel_rfl) (λ _ => AD CZO AI) (λ a h => DBG a h) (λ _ => OS rfl rfl) _
theorem DQF (a b : Int) : DCS a b := by
 rw [DLR]; simp only [AU, eq_self, implies_true, and_self, true_and, and_true, true_implies, forall_const, decide_eq_true_eq, decide_eq_false_iff_not, Int.toNat_natCast, dSpan_eSpan, dInt_eInt, AY, AW, AX, Nat.zero_add, Int.zero_sub, Nat.le_eq, Nat.succ_eq_add_one, Nat.add_one_le_iff, Bool.not_eq_true', Bool.not_eq_false', rng_length, AK, AJ]
 unfold QC
 refine ⟨λ h => if_pos h, λ h => ⟨by omega, λ h2 => ?_, λ h2 => ?_⟩⟩
 ·rw [if_neg h, if_pos h2]; rfl
 ·rw [if_neg h, if_neg h2]
theorem DLJ : AN Try.prog CTP DHH := Wn λ xs v p h _ => by
 unfold DIH at h; split at h
 ·cases h; exact PJ (A := ann 16 []) (ren := []) (fz := []) DLF (by kernel_rfl) AI (DQF _ _)
 ·cases h
structure StmB (K : Int) (s : Stm) : Prop where
 used : 0 <= s.used /\ s.used <= K
 mix : 0 <= s.mix /\ s.mix < 251
 bs : ∀ i, i < s.bs.length -> 0 <= gD s.bs i /\ gD s.bs i <= 255
theorem CMY {a b : Int} (ha : 0 <= a) (hb : 0 < b) : 0 <= a.tmod b /\ a.tmod b < b := by
 rw [Int.tmod_eq_emod_of_nonneg ha]
 exact ⟨Int.emod_nonneg _ (by omega), Int.emod_lt_of_pos _ hb⟩
theorem CRZ {K : Int} {s : Stm} (h : StmB K s) (hK : K <= 1000000000000000) (hb : s.bs.length ≠ 0) : 0 <= JT s /\ JT s <= 1000000000010000 := by
 have hu := h.used
 have hm := h.mix
 have hi := CMY hu.1 (show 0 < (s.bs.length : Int) by omega)
 have hx := h.bs (s.used.tmod s.bs.length).toNat (by omega)
 have hq : 0 <= s.used.tdiv s.bs.length /\ s.used.tdiv s.bs.length <= 1000000000000000 := by
  rw [Int.tdiv_eq_ediv_of_nonneg hu.1]
  refine ⟨Int.ediv_nonneg hu.1 (by omega), ?_⟩
  have := Int.ediv_le_self (s.bs.length : Int) hu.1
  omega
 have e0 : wr (gD s.bs (s.used.tmod s.bs.length).toNat) = gD s.bs (s.used.tmod s.bs.length).toNat := EN (by omega) (by omega)
 have e1 : wr (11 * s.mix) = 11 * s.mix := EN (by omega) (by omega)
 have e2 : wr (s.used.tdiv s.bs.length) = s.used.tdiv s.bs.length := EN (by omega) (by omega)
 have e3 : wr (11 * s.mix + s.used.tdiv s.bs.length) = 11 * s.mix + s.used.tdiv s.bs.length := EN (by omega) (by omega)
 have e4 : wr (gD s.bs (s.used.tmod s.bs.length).toNat + (11 * s.mix + s.used.tdiv s.bs.length)) = gD s.bs (s.used.tmod s.bs.length).toNat + (11 * s.mix + s.used.tdiv s.bs.length) := EN (by omega) (by omega)
 unfold JT
 rw [e0, e1, e2, e3, e4]
 split <;> omega
theorem CRU {K : Int} {s : Stm} (h : StmB K s) (hK : K <= 1000000000000000) (hb : s.bs.length ≠ 0) : 0 <= ZZ s /\ ZZ s < 251 := by
 have hm := h.mix
 have hn := CRZ h hK hb
 have e1 : wr (5 * s.mix) = 5 * s.mix := EN (by omega) (by omega)
 have e2 : wr (5 * s.mix + JT s) = 5 * s.mix + JT s := EN (by omega) (by omega)
 have e3 : wr (5 * s.mix + JT s + 1) = 5 * s.mix + JT s + 1 := EN (by omega) (by omega)
 unfold ZZ
 rw [e1, e2, e3]
 exact CMY (by omega) (by omega)
theorem DEW {s : Stm} {n : Int} (h : idle s n = false) : 2 <= n /\ s.bs.length ≠ 0 := by
 unfold idle at h
 by_cases x : n < 2
 ·rw [if_pos x] at h; cases h
 ·rw [if_neg x] at h; exact ⟨by omega, by simpa using h⟩
theorem StmB.mono {K M : Int} {s : Stm} (h : StmB K s) (hK : K <= M) : StmB M s := ⟨⟨h.used.1, by have := h.used; omega⟩, h.mix, h.bs⟩
theorem StmB.next {K : Int} {s : Stm} (h : StmB K s) (hK : K <= 1000000000000000) (n : Int) : StmB (K + 1) (AR s n) := by
 unfold AR
 cases hi : idle s n with
 | true => exact h.mono (by omega)
 | false =>
  obtain ⟨_, hb⟩ := DEW hi
  have hu := h.used
  have e : wr (s.used + 1) = s.used + 1 := EN (by omega) (by omega)
  refine ⟨?_, CRU h hK hb, h.bs⟩
  show 0 <= wr (s.used + 1) /\ wr (s.used + 1) <= K + 1
  rw [e]; omega
theorem HC {K : Int} {s : Stm} (h : StmB K s) (hK : K <= 1000000000000000) (n : Int) : 0 <= AP s n /\ (1 <= n -> AP s n < n) := by
 unfold AP
 cases hi : idle s n with
 | true => exact ⟨Int.le_refl _, λ h => by show (0 : Int) < n; omega⟩
 | false =>
  obtain ⟨hn, hb⟩ := DEW hi
  have h1 := CRZ h hK hb
  have h2 := CRU h hK hb
  have e1 : wr (256 * JT s) = 256 * JT s := EN (by omega) (by omega)
  have e2 : wr (256 * JT s + ZZ s) = 256 * JT s + ZZ s := EN (by omega) (by omega)
  rw [e1, e2]
  have := CMY (a := if 256 < n then 256 * JT s + ZZ s else JT s) (b := n) (by split <;> omega) (by omega)
  exact ⟨this.1, λ _ => this.2⟩
theorem qV {K : Int} {s : Stm} (h : StmB K s) (hK : K <= 1000000000000000) {lo hi : Int} (h1 : -1000000000 <= lo) (h2 : lo <= hi) (h3 : hi <= 1000000000) : lo <= WZ s lo hi /\ WZ s lo hi <= hi := by
 have e1 : wr (hi - lo) = hi - lo := EN (by omega) (by omega)
 have e2 : wr (hi - lo + 1) = hi - lo + 1 := EN (by omega) (by omega)
 unfold WZ witN
 rw [e1, e2]
 have := HC h hK (hi - lo + 1)
 have h4 := this.2 (by omega)
 have e3 : wr (lo + AP s (hi - lo + 1)) = lo + AP s (hi - lo + 1) := EN (by omega) (by omega)
 rw [e3]; omega
end Go.Bal
