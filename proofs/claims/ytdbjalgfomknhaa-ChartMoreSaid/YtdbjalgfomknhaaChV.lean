/- Package chart: streams of numbers: New, Next, Within, Pick. -/
import Derived.Test.YtdbjalgfomknhaaChP
set_option linter.unusedVariables false
set_option linter.unusedSimpArgs false
namespace Go.Bal.DL
open Go.Sym Go
theorem m1 (n : Int) : CD (.v (.int .u8 n)) = n := rfl
end Go.Bal.DL
namespace Go.Bal
open Go Go.Sym Go.Proofs
structure Stm where
 bs : List Int
 used : Int
 mix : Int
 deriving Inhabited
end Go.Bal
namespace Go.Bal.DL
theorem m2 (s : Stm) : Stm.mk s.bs s.used s.mix = s := rfl
end Go.Bal.DL
namespace Go.Bal
open Go Go.Sym Go.Proofs
def eBys (l : List Int) : DVal := lst 1 l.length λ i => .v (.int .u8 (gD l i))
def stmO (s : Stm) : AObj := .box [.d (eBys s.bs), .int s.used, .int s.mix]
def stmH (s : Stm) : HCell := .live (stmO s)
def CRR (H : Heap) (id : Nat) : Option Stm := match H id with
 | .live (.box [.d (.list _ n g _), .d (.v (.int _ u)), .d (.v (.int _ m))]) => some ⟨AE n λ i => CD (g i), u, m⟩
 | _ => none
def C_New : Ctr := { α := List Int, xs := λ l => [.d (eBys l)], L := λ _ => [], val := λ _ => .bptr 0 0, keep := λ l => [(0, stmH ⟨l, 0, 0⟩)] }
def DJX : List AVal -> Heap -> Option (List Int × List (Nat × Nat) × List Nat)
 | [.d (.list _ n g _)], _ => some (AE n λ i => CD (g i), [], [])
 | _, _ => none
def DMT (l : List Int) : Prop := AZ Try.prog (ann 6 []) CZN (AN CZN) (C_New.xs l) (AF []) (C_New.val l) (C_New.keep l) [(0, 2032)] []
theorem DNY (l : List Int) : (DMT l) = (l.length = l.length /\ (∀ (i : Nat), i < l.length -> gD l i = gD l i) /\ (0 : Int) = Int.ofNat (0 : Nat) /\ (0 : Int) = Int.ofNat (0 : Nat)) := by kernel_rfl
def KD (s : Stm) : Int := if s.bs.length <= s.used then wr (wr (gD s.bs (s.used.tmod s.bs.length).toNat) + wr (wr (11 * s.mix) + wr (s.used.tdiv s.bs.length))) else wr (gD s.bs (s.used.tmod s.bs.length).toNat)
def Am (s : Stm) : Int := (wr (wr (wr (5 * s.mix) + KD s) + 1)).tmod 251
def idle (s : Stm) (n : Int) : Bool := if n < 2 then true else decide (s.bs.length = 0)
def AQ (s : Stm) (n : Int) : Stm := if idle s n then s else ⟨s.bs, wr (s.used + 1), Am s⟩
def AL (s : Stm) (n : Int) : Int := if idle s n then 0 else (if 256 < n then wr (wr (256 * KD s) + Am s) else KD s).tmod n
structure SN where
 s : Stm
 n : Int
def C_Next : Ctr := { α := SN, xs := λ a => [.bptr 100 0, .int a.n], L := λ a => [(100, stmO a.s)], val := λ a => .int (AL a.s a.n), keep := λ a => [(100, stmH (AQ a.s a.n))], pre := λ a => [0 <= a.s.used] }
def CEX : List AVal -> Heap -> Option (SN × List (Nat × Nat) × List Nat)
 | [.bptr p _, .d (.v (.int _ n))], H => match CRR H p with
  | some s => some (⟨s, n⟩, [(100, p)], [])
  | none => none
 | _, _ => none
def DCQ : Ann := { ann 92 [] with E := [100] }
def DFE (a : SN) : Prop := AZ Try.prog DCQ CQO (AN CQO) (C_Next.xs a) (AF (C_Next.L a)) (C_Next.val a) (C_Next.keep a) [] []
abbrev AEG (a : SN) : Prop := (AQ a.s a.n).bs.length = a.s.bs.length
abbrev ABO (a : SN) : Prop := ∀ (i : Nat), i < (AQ a.s a.n).bs.length -> gD (AQ a.s a.n).bs i = gD a.s.bs i
abbrev AED (a : SN) : Int := a.s.used.tmod (↑a.s.bs.length : Int)
abbrev BSL : Prop := Int.ofNat (251 : Nat) = Int.ofNat (0 : Nat) -> False
abbrev BXK (a : SN) : Bool := decide (a.n > (256 : Int))
abbrev Ok (a : SN) : Prop := a.n = (0 : Int) -> False
abbrev Zq (a : SN) : Int := IntKind.i64.wrap (gD a.s.bs (AED a).toNat)
abbrev Y2 (a : SN) : Int := IntKind.i64.wrap (Zq a + IntKind.i64.wrap (IntKind.i64.wrap ((11 : Int) * a.s.mix) + IntKind.i64.wrap (a.s.used.tdiv (↑a.s.bs.length : Int))))
abbrev BMU (a : SN) : Int := IntKind.i64.wrap ((5 : Int) * a.s.mix)
abbrev BKH (a : SN) : Int := (IntKind.i64.wrap (IntKind.i64.wrap (BMU a + Y2 a) + (1 : Int))).tmod (251 : Int)
abbrev APV (a : SN) : Prop := (AQ a.s a.n).used = IntKind.i64.wrap (a.s.used + (1 : Int))
abbrev BDQ (a : SN) : Prop := AEG a /\ ABO a /\ APV a /\ (AQ a.s a.n).mix = BKH a
abbrev BBU (a : SN) : Int := (IntKind.i64.wrap (IntKind.i64.wrap (BMU a + Zq a) + (1 : Int))).tmod (251 : Int)
abbrev AFE (a : SN) : Prop := AEG a /\ ABO a /\ APV a /\ (AQ a.s a.n).mix = BBU a
theorem DFO (a : SN) : (DFE a) = (bif bif decide (a.n < (2 : Int)) then true else (↑a.s.bs.length : Int) == (0 : Int) then AL a.s a.n = (0 : Int) /\ AEG a /\ ABO a /\ (AQ a.s a.n).used = a.s.used /\
 (AQ a.s a.n).mix = a.s.mix else ((↑a.s.bs.length : Int) ≠ (0 : Int) /\ (0 : Int) <= AED a /\ AED a < (↑a.s.bs.length : Int)) /\ bif decide (a.s.used >= (↑a.s.bs.length : Int)) then ((↑a.s.bs.length : Int) = (0 :
 Int) -> False) /\ BSL /\ bif BXK a then Ok a /\ AL a.s a.n = (IntKind.i64.wrap (IntKind.i64.wrap ((256 : Int) * Y2 a) + BKH a)).tmod a.n /\ BDQ a else Ok a /\ AL a.s a.n = (Y2
 a).tmod a.n /\ BDQ a else BSL /\ bif BXK a then Ok a /\ AL a.s a.n = (IntKind.i64.wrap (IntKind.i64.wrap ((256 : Int) * Zq a) + BBU a)).tmod a.n /\ AFE a else Ok a /\ AL a.s
 a.n = (Zq a).tmod a.n /\ AFE a) := by kernel_rfl
def witN (lo hi : Int) : Int := wr (wr (hi - lo) + 1)
def WH (s : Stm) (lo hi : Int) : Int := wr (lo + AL s (witN lo hi))
def MD (s : Stm) (lo hi : Int) : Stm := AQ s (witN lo hi)
structure SW where
 s : Stm
 lo : Int
 hi : Int
def C_Within : Ctr := { α := SW, xs := λ a => [.bptr 100 0, .int a.lo, .int a.hi], L := λ a => [(100, stmO a.s)], val := λ a => .int (WH a.s a.lo a.hi), keep := λ a => [(100, stmH (MD a.s a.lo a.hi))], pre := λ a => [0 <= a.s.used] }
def CNA : List AVal -> Heap -> Option (SW × List (Nat × Nat) × List Nat)
 | [.bptr p _, .d (.v (.int _ n)), .d (.v (.int _ m))], H => match CRR H p with
  | some s => some (⟨s, n, m⟩, [(100, p)], [])
  | none => none
 | _, _ => none
def COH : Ann := { ann 15 [(BXN, C_Next.spec CEX)] with E := [100] }
def CNQ (a : SW) : Prop := AZ Try.prog COH BQV (AN BQV) (C_Within.xs a) (AF (C_Within.L a)) (C_Within.val a) (C_Within.keep a) [] []
theorem CXF (a : SW) : (CNQ a) = ((IntKind.i64.wrap (IntKind.i64.wrap (a.hi - a.lo) + 1) = IntKind.i64.wrap (IntKind.i64.wrap (a.hi - a.lo) + 1) /\ (AE a.s.bs.length λ (i : Nat) => gD a.s.bs i).length =
 a.s.bs.length /\ (∀ (i : Nat), i < (AE a.s.bs.length λ (i : Nat) => gD a.s.bs i).length -> gD (AE a.s.bs.length λ (i : Nat) => gD a.s.bs i) i = gD a.s.bs i) /\ a.s.used = a.s.used /\ a.s.mix = a.s.mix /\ (a.s.used -
 0).NonNeg) /\ WH a.s a.lo a.hi = IntKind.i64.wrap (a.lo + AL (Stm.mk (AE a.s.bs.length λ (i : Nat) => gD a.s.bs i) a.s.used a.s.mix) (IntKind.i64.wrap (IntKind.i64.wrap (a.hi - a.lo) + 1))) /\ (MD a.s a.lo
 a.hi).bs.length = (AQ (Stm.mk (AE a.s.bs.length λ (i : Nat) => gD a.s.bs i) a.s.used a.s.mix) (IntKind.i64.wrap (IntKind.i64.wrap (a.hi - a.lo) + 1))).bs.length /\ (∀ (i : Nat), i < (MD a.s a.lo a.hi).bs.length ->
 gD (MD a.s a.lo a.hi).bs i = gD (AQ (Stm.mk (AE a.s.bs.length λ (i : Nat) => gD a.s.bs i) a.s.used a.s.mix) (IntKind.i64.wrap (IntKind.i64.wrap (a.hi - a.lo) + 1))).bs i) /\ (MD a.s a.lo a.hi).used = (AQ
 (Stm.mk (AE a.s.bs.length λ (i : Nat) => gD a.s.bs i) a.s.used a.s.mix) (IntKind.i64.wrap (IntKind.i64.wrap (a.hi - a.lo) + 1))).used /\ (MD a.s a.lo a.hi).mix = (AQ (Stm.mk (AE a.s.bs.length λ (i : Nat) => gD
 a.s.bs i) a.s.used a.s.mix) (IntKind.i64.wrap (IntKind.i64.wrap (a.hi - a.lo) + 1))).mix) := by kernel_rfl
def MX (v n : Int) : Int := if n < 1 then 0 else if v.tmod n < 0 then wr (v.tmod n + n) else v.tmod n
def CYX (v n : Int) : Prop := AZ Try.prog (ann 16 []) CSB (AN CSB) [.int v, .int n] (AF []) (.int (MX v n)) [] [] []
theorem DHK (v : Int) (n : Int) : (CYX v n) = (bif decide (n < 1) then MX v n = 0 else (n = 0 -> False) /\ bif decide (v.tmod n < 0) then MX v n = IntKind.i64.wrap (v.tmod n + n) else MX v n = v.tmod n) :=
 by kernel_rfl
def DBH : List AVal -> Option (AVal × List Prop)
 | [.d (.v (.int .i64 a)), .d (.v (.int .i64 b))] => some (.int (MX a b), [])
 | _ => none
def DDL := Ug DBH
theorem DRO (l : List Int) : DMT l := by
 rw [DNY]; exact ⟨rfl, λ _ _ => rfl, rfl, rfl⟩
theorem DAG : AP Try.prog DCZ (C_New.spec DJX) := MC C_New (λ _ => ann 6 []) [(0, 2032)] [] DOH (λ _ => by kernel_rfl) (λ _ => AK) (λ l _ => DRO l) (λ _ => MO rfl rfl) _
theorem DNB (s : Stm) (n : Int) : (bif decide (n < 2) then true else (s.bs.length : Int) == 0) = idle s n := by
 unfold idle
 by_cases h : n < 2
 ·simp [h]
 ·simp only [h, decide_false, cond_false, if_false]
  by_cases h2 : s.bs.length = 0
  ·simp [h2]
  ·have : ¬ (s.bs.length : Int) = 0 := by omega
   simp [h2]
theorem DFU {a b : Int} (ha : 0 <= a) (hb : 0 < b) : 0 <= a.tmod b /\ a.tmod b < b := by
 rw [Int.tmod_eq_emod_of_nonneg ha]
 exact ⟨Int.emod_nonneg _ (by omega), Int.emod_lt_of_pos _ hb⟩
theorem DOC (a : SN) (h : 0 <= a.s.used) : DFE a := by
 rw [DFO]; delta AEG ABO AED BSL BXK Ok Zq Y2 BMU BKH APV BDQ BBU AFE; simp only [CC, eq_self, implies_true, forall_const, DNB]
 refine ⟨λ hi => ?_, λ hi => ?_⟩
 ·have e1 : AL a.s a.n = 0 := by unfold AL; rw [hi]; rfl
  have e2 : AQ a.s a.n = a.s := by unfold AQ; rw [hi]; rfl
  rw [e1, e2]; exact ⟨rfl, rfl, λ _ _ => rfl, rfl, rfl⟩
 have hi2 : ¬ a.n < 2 /\ ¬ a.s.bs.length = 0 := by
  unfold idle at hi
  by_cases x : a.n < 2
  ·rw [if_pos x] at hi; cases hi
  ·rw [if_neg x] at hi; exact ⟨x, by simpa using hi⟩
 obtain ⟨i1, i2⟩ := hi2
 have e1 : AL a.s a.n = (if 256 < a.n then wr (wr (256 * KD a.s) + Am a.s) else KD a.s).tmod a.n := by unfold AL; rw [hi]; rfl
 have e2 : AQ a.s a.n = ⟨a.s.bs, wr (a.s.used + 1), Am a.s⟩ := by unfold AQ; rw [hi]; rfl
 have hm := DFU h (show 0 < (a.s.bs.length : Int) by omega)
 rw [e1, e2]
 refine ⟨⟨by omega, hm⟩, λ hu => ⟨by omega, by decide, λ hn => ⟨by omega, ?_⟩, λ hn => ⟨by omega, ?_⟩⟩, λ hu => ⟨by decide, λ hn => ⟨by omega, ?_⟩, λ hn => ⟨by omega, ?_⟩⟩⟩
 ·rw [if_pos (by omega)]; unfold Am KD; rw [if_pos (by omega)]; exact ⟨rfl, rfl, λ _ _ => rfl, rfl, rfl⟩
 ·rw [if_neg (by omega)]; unfold Am KD; rw [if_pos (by omega)]; exact ⟨rfl, rfl, λ _ _ => rfl, rfl, rfl⟩
 ·rw [if_pos (by omega)]; unfold Am KD; rw [if_neg (by omega)]; exact ⟨rfl, rfl, λ _ _ => rfl, rfl, rfl⟩
 ·rw [if_neg (by omega)]; unfold Am KD; rw [if_neg (by omega)]; exact ⟨rfl, rfl, λ _ _ => rfl, rfl, rfl⟩
theorem BHG : AP Try.prog BXN (C_Next.spec CEX) := MC C_Next (λ _ => DCQ) [] [] DHL (λ _ => by kernel_rfl) (λ _ => AK) (λ a h => DOC a h) (λ _ => MO rfl rfl) _
theorem DBT (a : SW) (h : 0 <= a.s.used) : CNQ a := by
 rw [CXF]; simp only [CC, eq_self, implies_true, forall_const]
 exact ⟨h, rfl, rfl, λ _ _ => rfl, rfl, rfl⟩
theorem CWS : AP Try.prog BVT (C_Within.spec CNA) := MC C_Within (λ _ => COH) [] [] CWQ (λ _ => by kernel_rfl) (λ _ => AD BHG AK) (λ a h => DBT a h) (λ _ => MO rfl rfl) _
theorem DNR (a b : Int) : CYX a b := by
 rw [DHK]; simp only [CC, eq_self, implies_true, forall_const]
 unfold MX
 refine ⟨λ h => if_pos h, λ h => ⟨by omega, λ h2 => ?_, λ h2 => ?_⟩⟩
 ·rw [if_neg h, if_pos h2]; rfl
 ·rw [if_neg h, if_neg h2]
theorem CUI : AP Try.prog CSQ DDL := Xz λ xs v p h _ => by
 unfold DBH at h; split at h
 ·cases h; exact TV (A := ann 16 []) (ren := []) (fz := []) DIA (by kernel_rfl) AK (DNR _ _)
 ·cases h
structure StmB (K : Int) (s : Stm) : Prop where
 used : 0 <= s.used /\ s.used <= K
 mix : 0 <= s.mix /\ s.mix < 251
 bs : ∀ i, i < s.bs.length -> 0 <= gD s.bs i /\ gD s.bs i <= 255
theorem CFC {a b : Int} (ha : 0 <= a) (hb : 0 < b) : 0 <= a.tmod b /\ a.tmod b < b := by
 rw [Int.tmod_eq_emod_of_nonneg ha]
 exact ⟨Int.emod_nonneg _ (by omega), Int.emod_lt_of_pos _ hb⟩
theorem CNF {K : Int} {s : Stm} (h : StmB K s) (hK : K <= 1000000000000000) (hb : s.bs.length ≠ 0) : 0 <= KD s /\ KD s <= 1000000000010000 := by
 have hu := h.used
 have hm := h.mix
 have hi := CFC hu.1 (show 0 < (s.bs.length : Int) by omega)
 have hx := h.bs (s.used.tmod s.bs.length).toNat (by omega)
 have hq : 0 <= s.used.tdiv s.bs.length /\ s.used.tdiv s.bs.length <= 1000000000000000 := by
  rw [Int.tdiv_eq_ediv_of_nonneg hu.1]
  refine ⟨Int.ediv_nonneg hu.1 (by omega), ?_⟩
  have := Int.ediv_le_self (s.bs.length : Int) hu.1
  omega
 have e0 : wr (gD s.bs (s.used.tmod s.bs.length).toNat) = gD s.bs (s.used.tmod s.bs.length).toNat := EM (by omega) (by omega)
 have e1 : wr (11 * s.mix) = 11 * s.mix := EM (by omega) (by omega)
 have e2 : wr (s.used.tdiv s.bs.length) = s.used.tdiv s.bs.length := EM (by omega) (by omega)
 have e3 : wr (11 * s.mix + s.used.tdiv s.bs.length) = 11 * s.mix + s.used.tdiv s.bs.length := EM (by omega) (by omega)
 have e4 : wr (gD s.bs (s.used.tmod s.bs.length).toNat + (11 * s.mix + s.used.tdiv s.bs.length)) = gD s.bs (s.used.tmod s.bs.length).toNat + (11 * s.mix + s.used.tdiv s.bs.length) := EM (by omega) (by omega)
 unfold KD
 rw [e0, e1, e2, e3, e4]
 split <;> omega
theorem COV {K : Int} {s : Stm} (h : StmB K s) (hK : K <= 1000000000000000) (hb : s.bs.length ≠ 0) : 0 <= Am s /\ Am s < 251 := by
 have hm := h.mix
 have hn := CNF h hK hb
 have e1 : wr (5 * s.mix) = 5 * s.mix := EM (by omega) (by omega)
 have e2 : wr (5 * s.mix + KD s) = 5 * s.mix + KD s := EM (by omega) (by omega)
 have e3 : wr (5 * s.mix + KD s + 1) = 5 * s.mix + KD s + 1 := EM (by omega) (by omega)
 unfold Am
 rw [e1, e2, e3]
 exact CFC (by omega) (by omega)
theorem DCC {s : Stm} {n : Int} (h : idle s n = false) : 2 <= n /\ s.bs.length ≠ 0 := by
 unfold idle at h
 by_cases x : n < 2
 ·rw [if_pos x] at h; cases h
 ·rw [if_neg x] at h; exact ⟨by omega, by simpa using h⟩
theorem StmB.mono {K M : Int} {s : Stm} (h : StmB K s) (hK : K <= M) : StmB M s := ⟨⟨h.used.1, by have := h.used; omega⟩, h.mix, h.bs⟩
theorem StmB.next {K : Int} {s : Stm} (h : StmB K s) (hK : K <= 1000000000000000) (n : Int) : StmB (K + 1) (AQ s n) := by
 unfold AQ
 cases hi : idle s n with
 | true => exact h.mono (by omega)
 | false =>
  obtain ⟨_, hb⟩ := DCC hi
  have hu := h.used
  have e : wr (s.used + 1) = s.used + 1 := EM (by omega) (by omega)
  refine ⟨?_, COV h hK hb, h.bs⟩
  show 0 <= wr (s.used + 1) /\ wr (s.used + 1) <= K + 1
  rw [e]; omega
theorem BP {K : Int} {s : Stm} (h : StmB K s) (hK : K <= 1000000000000000) (n : Int) : 0 <= AL s n /\ (1 <= n -> AL s n < n) := by
 unfold AL
 cases hi : idle s n with
 | true => exact ⟨Int.le_refl _, λ h => by show (0 : Int) < n; omega⟩
 | false =>
  obtain ⟨hn, hb⟩ := DCC hi
  have h1 := CNF h hK hb
  have h2 := COV h hK hb
  have e1 : wr (256 * KD s) = 256 * KD s := EM (by omega) (by omega)
  have e2 : wr (256 * KD s + Am s) = 256 * KD s + Am s := EM (by omega) (by omega)
  rw [e1, e2]
  have := CFC (a := if 256 < n then 256 * KD s + Am s else KD s) (b := n) (by split <;> omega) (by omega)
  exact ⟨this.1, λ _ => this.2⟩
theorem jZ {K : Int} {s : Stm} (h : StmB K s) (hK : K <= 1000000000000000) {lo hi : Int} (h1 : -1000000000 <= lo) (h2 : lo <= hi) (h3 : hi <= 1000000000) : lo <= WH s lo hi /\ WH s lo hi <= hi := by
 have e1 : wr (hi - lo) = hi - lo := EM (by omega) (by omega)
 have e2 : wr (hi - lo + 1) = hi - lo + 1 := EM (by omega) (by omega)
 unfold WH witN
 rw [e1, e2]
 have := BP h hK (hi - lo + 1)
 have h4 := this.2 (by omega)
 have e3 : wr (lo + AL s (hi - lo + 1)) = lo + AL s (hi - lo + 1) := EM (by omega) (by omega)
 rw [e3]; omega
end Go.Bal
