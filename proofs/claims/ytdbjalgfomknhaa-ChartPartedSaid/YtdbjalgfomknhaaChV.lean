/- Package chart: streams of numbers: New, Next, Within, Pick. -/
import Derived.Test.YtdbjalgfomknhaaChP
set_option linter.unusedVariables false
set_option linter.unusedSimpArgs false
namespace Go.Bal.DL
open Go.Sym Go
theorem m1 (n : Int) : CK (.v (.int .u8 n)) = n := rfl
end Go.Bal.DL
namespace Go.Bal
open Go Go.Sym Go.Proofs
structure Stm where
 bs : List Int
 used : Int
 mix : Int
 deriving Inhabited
end Go.Bal
namespace Go.Bal.DL
theorem m2 (s : Stm) : Stm.mk s.bs s.used s.mix = s := rfl
end Go.Bal.DL
namespace Go.Bal
open Go Go.Sym Go.Proofs
def eBys (l : List Int) : DVal := lst 1 l.length λ i => .v (.int .u8 (gD l i))
def stmO (s : Stm) : AObj := .box [.d (eBys s.bs), .int s.used, .int s.mix]
def stmH (s : Stm) : HCell := .live (stmO s)
def CBR (H : Heap) (id : Nat) : Option Stm := match H id with
 | .live (.box [.d (.list _ n g _), .d (.v (.int _ u)), .d (.v (.int _ m))]) => some ⟨AE n λ i => CK (g i), u, m⟩
 | _ => none
def C_New : Ctr := { α := List Int, xs := λ l => [.d (eBys l)], L := λ _ => [], val := λ _ => .bptr 0 0, keep := λ l => [(0, stmH ⟨l, 0, 0⟩)] }
def CTE : List AVal -> Heap -> Option (List Int × List (Nat × Nat) × List Nat)
 | [.d (.list _ n g _)], _ => some (AE n λ i => CK (g i), [], [])
 | _, _ => none
def CTR (l : List Int) : Prop := AZ Try.prog (ann 6 []) CJW (AL CJW) (C_New.xs l) (AG []) (C_New.val l) (C_New.keep l) [(0, 2032)] []
theorem CVM (l : List Int) : (CTR l) = (l.length = l.length /\ (∀ (i : Nat), i < l.length -> gD l i = gD l i) /\ (0 : Int) = Int.ofNat (0 : Nat) /\ (0 : Int) = Int.ofNat (0 : Nat)) := by kernel_rfl
def IV (s : Stm) : Int := if s.bs.length <= s.used then wr (wr (gD s.bs (s.used.tmod s.bs.length).toNat) + wr (wr (11 * s.mix) + wr (s.used.tdiv s.bs.length))) else wr (gD s.bs (s.used.tmod s.bs.length).toNat)
def VF (s : Stm) : Int := (wr (wr (wr (5 * s.mix) + IV s) + 1)).tmod 251
def idle (s : Stm) (n : Int) : Bool := if n < 2 then true else decide (s.bs.length = 0)
def BB (s : Stm) (n : Int) : Stm := if idle s n then s else ⟨s.bs, wr (s.used + 1), VF s⟩
def AQ (s : Stm) (n : Int) : Int := if idle s n then 0 else (if 256 < n then wr (wr (256 * IV s) + VF s) else IV s).tmod n
structure SN where
 s : Stm
 n : Int
def C_Next : Ctr := { α := SN, xs := λ a => [.bptr 100 0, .int a.n], L := λ a => [(100, stmO a.s)], val := λ a => .int (AQ a.s a.n), keep := λ a => [(100, stmH (BB a.s a.n))], pre := λ a => [0 <= a.s.used] }
def BYS : List AVal -> Heap -> Option (SN × List (Nat × Nat) × List Nat)
 | [.bptr p _, .d (.v (.int _ n))], H => match CBR H p with
  | some s => some (⟨s, n⟩, [(100, p)], [])
  | none => none
 | _, _ => none
def CLN : Ann := { ann 92 [] with E := [100] }
def CHA (a : SN) : Prop := AZ Try.prog CLN CBX (AL CBX) (C_Next.xs a) (AG (C_Next.L a)) (C_Next.val a) (C_Next.keep a) [] []
abbrev M7 (a : SN) : Prop := (BB a.s a.n).bs.length = a.s.bs.length
abbrev A1 (a : SN) : Prop := ∀ (i : Nat), i < (BB a.s a.n).bs.length -> gD (BB a.s a.n).bs i = gD a.s.bs i
abbrev L9 (a : SN) : Int := a.s.used.tmod (↑a.s.bs.length : Int)
abbrev BAL : Prop := Int.ofNat (251 : Nat) = Int.ofNat (0 : Nat) -> False
abbrev BDW (a : SN) : Bool := decide (a.n > (256 : Int))
abbrev Um (a : SN) : Prop := a.n = (0 : Int) -> False
abbrev Kj (a : SN) : Int := IntKind.i64.wrap (gD a.s.bs (L9 a).toNat)
abbrev xK (a : SN) : Int := IntKind.i64.wrap (Kj a + IntKind.i64.wrap (IntKind.i64.wrap ((11 : Int) * a.s.mix) + IntKind.i64.wrap (a.s.used.tdiv (↑a.s.bs.length : Int))))
abbrev BCD (a : SN) : Int := IntKind.i64.wrap ((5 : Int) * a.s.mix)
abbrev BDM (a : SN) : Int := (IntKind.i64.wrap (IntKind.i64.wrap (BCD a + xK a) + (1 : Int))).tmod (251 : Int)
abbrev S0 (a : SN) : Prop := (BB a.s a.n).used = IntKind.i64.wrap (a.s.used + (1 : Int))
abbrev AJQ (a : SN) : Prop := M7 a /\ A1 a /\ S0 a /\ (BB a.s a.n).mix = BDM a
abbrev P8 (a : SN) : Int := (IntKind.i64.wrap (IntKind.i64.wrap (BCD a + Kj a) + (1 : Int))).tmod (251 : Int)
abbrev AGF (a : SN) : Prop := M7 a /\ A1 a /\ S0 a /\ (BB a.s a.n).mix = P8 a
theorem COW (a : SN) : (CHA a) = (bif bif decide (a.n < (2 : Int)) then true else (↑a.s.bs.length : Int) == (0 : Int) then AQ a.s a.n = (0 : Int) /\ M7 a /\ A1 a /\ (BB a.s a.n).used = a.s.used /\
 (BB a.s a.n).mix = a.s.mix else ((↑a.s.bs.length : Int) ≠ (0 : Int) /\ (0 : Int) <= L9 a /\ L9 a < (↑a.s.bs.length : Int)) /\ bif decide (a.s.used >= (↑a.s.bs.length : Int)) then ((↑a.s.bs.length : Int) = (0 :
 Int) -> False) /\ BAL /\ bif BDW a then Um a /\ AQ a.s a.n = (IntKind.i64.wrap (IntKind.i64.wrap ((256 : Int) * xK a) + BDM a)).tmod a.n /\ AJQ a else Um a /\ AQ a.s a.n = (xK
 a).tmod a.n /\ AJQ a else BAL /\ bif BDW a then Um a /\ AQ a.s a.n = (IntKind.i64.wrap (IntKind.i64.wrap ((256 : Int) * Kj a) + P8 a)).tmod a.n /\ AGF a else Um a /\ AQ a.s
 a.n = (Kj a).tmod a.n /\ AGF a) := by kernel_rfl
def witN (lo hi : Int) : Int := wr (wr (hi - lo) + 1)
def SK (s : Stm) (lo hi : Int) : Int := wr (lo + AQ s (witN lo hi))
def KM (s : Stm) (lo hi : Int) : Stm := BB s (witN lo hi)
structure SW where
 s : Stm
 lo : Int
 hi : Int
def C_Within : Ctr := { α := SW, xs := λ a => [.bptr 100 0, .int a.lo, .int a.hi], L := λ a => [(100, stmO a.s)], val := λ a => .int (SK a.s a.lo a.hi), keep := λ a => [(100, stmH (KM a.s a.lo a.hi))], pre := λ a => [0 <= a.s.used] }
def BVX : List AVal -> Heap -> Option (SW × List (Nat × Nat) × List Nat)
 | [.bptr p _, .d (.v (.int _ n)), .d (.v (.int _ m))], H => match CBR H p with
  | some s => some (⟨s, n, m⟩, [(100, p)], [])
  | none => none
 | _, _ => none
def BYG : Ann := { ann 15 [(BQN, C_Next.spec BYS)] with E := [100] }
def BYO (a : SW) : Prop := AZ Try.prog BYG ATT (AL ATT) (C_Within.xs a) (AG (C_Within.L a)) (C_Within.val a) (C_Within.keep a) [] []
theorem CFX (a : SW) : (BYO a) = ((IntKind.i64.wrap (IntKind.i64.wrap (a.hi - a.lo) + 1) = IntKind.i64.wrap (IntKind.i64.wrap (a.hi - a.lo) + 1) /\ (AE a.s.bs.length λ (i : Nat) => gD a.s.bs i).length =
 a.s.bs.length /\ (∀ (i : Nat), i < (AE a.s.bs.length λ (i : Nat) => gD a.s.bs i).length -> gD (AE a.s.bs.length λ (i : Nat) => gD a.s.bs i) i = gD a.s.bs i) /\ a.s.used = a.s.used /\ a.s.mix = a.s.mix /\ (a.s.used -
 0).NonNeg) /\ SK a.s a.lo a.hi = IntKind.i64.wrap (a.lo + AQ (Stm.mk (AE a.s.bs.length λ (i : Nat) => gD a.s.bs i) a.s.used a.s.mix) (IntKind.i64.wrap (IntKind.i64.wrap (a.hi - a.lo) + 1))) /\ (KM a.s a.lo
 a.hi).bs.length = (BB (Stm.mk (AE a.s.bs.length λ (i : Nat) => gD a.s.bs i) a.s.used a.s.mix) (IntKind.i64.wrap (IntKind.i64.wrap (a.hi - a.lo) + 1))).bs.length /\ (∀ (i : Nat), i < (KM a.s a.lo a.hi).bs.length ->
 gD (KM a.s a.lo a.hi).bs i = gD (BB (Stm.mk (AE a.s.bs.length λ (i : Nat) => gD a.s.bs i) a.s.used a.s.mix) (IntKind.i64.wrap (IntKind.i64.wrap (a.hi - a.lo) + 1))).bs i) /\ (KM a.s a.lo a.hi).used = (BB
 (Stm.mk (AE a.s.bs.length λ (i : Nat) => gD a.s.bs i) a.s.used a.s.mix) (IntKind.i64.wrap (IntKind.i64.wrap (a.hi - a.lo) + 1))).used /\ (KM a.s a.lo a.hi).mix = (BB (Stm.mk (AE a.s.bs.length λ (i : Nat) => gD
 a.s.bs i) a.s.used a.s.mix) (IntKind.i64.wrap (IntKind.i64.wrap (a.hi - a.lo) + 1))).mix) := by kernel_rfl
def JS (v n : Int) : Int := if n < 1 then 0 else if v.tmod n < 0 then wr (v.tmod n + n) else v.tmod n
def CNR (v n : Int) : Prop := AZ Try.prog (ann 16 []) CBB (AL CBB) [.int v, .int n] (AG []) (.int (JS v n)) [] [] []
theorem COV (v : Int) (n : Int) : (CNR v n) = (bif decide (n < 1) then JS v n = 0 else (n = 0 -> False) /\ bif decide (v.tmod n < 0) then JS v n = IntKind.i64.wrap (v.tmod n + n) else JS v n = v.tmod n) :=
 by kernel_rfl
def CHE : List AVal -> Option (AVal × List Prop)
 | [.d (.v (.int .i64 a)), .d (.v (.int .i64 b))] => some (.int (JS a b), [])
 | _ => none
def CNI := Ro CHE
theorem DAE (l : List Int) : CTR l := by
 rw [CVM]; exact ⟨rfl, λ _ _ => rfl, rfl, rfl⟩
theorem CUZ : AM Try.prog CMZ (C_New.spec CTE) := LF C_New (λ _ => ann 6 []) [(0, 2032)] [] CWY (λ _ => by kernel_rfl) (λ _ => AJ) (λ l _ => DAE l) (λ _ => NP rfl rfl) _
theorem CWE (s : Stm) (n : Int) : (bif decide (n < 2) then true else (s.bs.length : Int) == 0) = idle s n := by
 unfold idle
 by_cases h : n < 2
 ·simp [h]
 ·simp only [h, decide_false, cond_false, if_false]
  by_cases h2 : s.bs.length = 0
  ·simp [h2]
  ·have : ¬ (s.bs.length : Int) = 0 := by omega
   simp [h2]
theorem CPO {a b : Int} (ha : 0 <= a) (hb : 0 < b) : 0 <= a.tmod b /\ a.tmod b < b := by
 rw [Int.tmod_eq_emod_of_nonneg ha]
 exact ⟨Int.emod_nonneg _ (by omega), Int.emod_lt_of_pos _ hb⟩
theorem CVI (a : SN) (h : 0 <= a.s.used) : CHA a := by
 rw [COW]; delta M7 A1 L9 BAL BDW Um Kj xK BCD BDM S0 AJQ P8 AGF; simp only [CC, eq_self, implies_true, forall_const, CWE]
 refine ⟨λ hi => ?_, λ hi => ?_⟩
 ·have e1 : AQ a.s a.n = 0 := by unfold AQ; rw [hi]; rfl
  have e2 : BB a.s a.n = a.s := by unfold BB; rw [hi]; rfl
  rw [e1, e2]; exact ⟨rfl, rfl, λ _ _ => rfl, rfl, rfl⟩
 have hi2 : ¬ a.n < 2 /\ ¬ a.s.bs.length = 0 := by
  unfold idle at hi
  by_cases x : a.n < 2
  ·rw [if_pos x] at hi; cases hi
  ·rw [if_neg x] at hi; exact ⟨x, by simpa using hi⟩
 obtain ⟨i1, i2⟩ := hi2
 have e1 : AQ a.s a.n = (if 256 < a.n then wr (wr (256 * IV a.s) + VF a.s) else IV a.s).tmod a.n := by unfold AQ; rw [hi]; rfl
 have e2 : BB a.s a.n = ⟨a.s.bs, wr (a.s.used + 1), VF a.s⟩ := by unfold BB; rw [hi]; rfl
 have hm := CPO h (show 0 < (a.s.bs.length : Int) by omega)
 rw [e1, e2]
 refine ⟨⟨by omega, hm⟩, λ hu => ⟨by omega, by decide, λ hn => ⟨by omega, ?_⟩, λ hn => ⟨by omega, ?_⟩⟩, λ hu => ⟨by decide, λ hn => ⟨by omega, ?_⟩, λ hn => ⟨by omega, ?_⟩⟩⟩
 ·rw [if_pos (by omega)]; unfold VF IV; rw [if_pos (by omega)]; exact ⟨rfl, rfl, λ _ _ => rfl, rfl, rfl⟩
 ·rw [if_neg (by omega)]; unfold VF IV; rw [if_pos (by omega)]; exact ⟨rfl, rfl, λ _ _ => rfl, rfl, rfl⟩
 ·rw [if_pos (by omega)]; unfold VF IV; rw [if_neg (by omega)]; exact ⟨rfl, rfl, λ _ _ => rfl, rfl, rfl⟩
 ·rw [if_neg (by omega)]; unfold VF IV; rw [if_neg (by omega)]; exact ⟨rfl, rfl, λ _ _ => rfl, rfl, rfl⟩
theorem CEB : AM Try.prog BQN (C_Next.spec BYS) := LF C_Next (λ _ => CLN) [] [] CPM (λ _ => by kernel_rfl) (λ _ => AJ) (λ a h => CVI a h) (λ _ => NP rfl rfl) _
theorem CKC (a : SW) (h : 0 <= a.s.used) : BYO a := by
 rw [CFX]; simp only [CC, eq_self, implies_true, forall_const]
 exact ⟨h, rfl, rfl, λ _ _ => rfl, rfl, rfl⟩
theorem CGR : AM Try.prog ASC (C_Within.spec BVX) := LF C_Within (λ _ => BYG) [] [] CFQ (λ _ => by kernel_rfl) (λ _ => AC CEB AJ) (λ a h => CKC a h) (λ _ => NP rfl rfl) _
theorem CWJ (a b : Int) : CNR a b := by
 rw [COV]; simp only [CC, eq_self, implies_true, forall_const]
 unfold JS
 refine ⟨λ h => if_pos h, λ h => ⟨by omega, λ h2 => ?_, λ h2 => ?_⟩⟩
 ·rw [if_neg h, if_pos h2]; rfl
 ·rw [if_neg h, if_neg h2]
theorem CQE : AM Try.prog CAU CNI := Qw λ xs v p h _ => by
 unfold CHE at h; split at h
 ·cases h; exact UO (A := ann 16 []) (ren := []) (fz := []) CPZ (by kernel_rfl) AJ (CWJ _ _)
 ·cases h
structure StmB (K : Int) (s : Stm) : Prop where
 used : 0 <= s.used /\ s.used <= K
 mix : 0 <= s.mix /\ s.mix < 251
 bs : ∀ i, i < s.bs.length -> 0 <= gD s.bs i /\ gD s.bs i <= 255
theorem BPV {a b : Int} (ha : 0 <= a) (hb : 0 < b) : 0 <= a.tmod b /\ a.tmod b < b := by
 rw [Int.tmod_eq_emod_of_nonneg ha]
 exact ⟨Int.emod_nonneg _ (by omega), Int.emod_lt_of_pos _ hb⟩
theorem BWZ {K : Int} {s : Stm} (h : StmB K s) (hK : K <= 1000000000000000) (hb : s.bs.length ≠ 0) : 0 <= IV s /\ IV s <= 1000000000010000 := by
 have hu := h.used
 have hm := h.mix
 have hi := BPV hu.1 (show 0 < (s.bs.length : Int) by omega)
 have hx := h.bs (s.used.tmod s.bs.length).toNat (by omega)
 have hq : 0 <= s.used.tdiv s.bs.length /\ s.used.tdiv s.bs.length <= 1000000000000000 := by
  rw [Int.tdiv_eq_ediv_of_nonneg hu.1]
  refine ⟨Int.ediv_nonneg hu.1 (by omega), ?_⟩
  have := Int.ediv_le_self (s.bs.length : Int) hu.1
  omega
 have e0 : wr (gD s.bs (s.used.tmod s.bs.length).toNat) = gD s.bs (s.used.tmod s.bs.length).toNat := FH (by omega) (by omega)
 have e1 : wr (11 * s.mix) = 11 * s.mix := FH (by omega) (by omega)
 have e2 : wr (s.used.tdiv s.bs.length) = s.used.tdiv s.bs.length := FH (by omega) (by omega)
 have e3 : wr (11 * s.mix + s.used.tdiv s.bs.length) = 11 * s.mix + s.used.tdiv s.bs.length := FH (by omega) (by omega)
 have e4 : wr (gD s.bs (s.used.tmod s.bs.length).toNat + (11 * s.mix + s.used.tdiv s.bs.length)) = gD s.bs (s.used.tmod s.bs.length).toNat + (11 * s.mix + s.used.tdiv s.bs.length) := FH (by omega) (by omega)
 unfold IV
 rw [e0, e1, e2, e3, e4]
 split <;> omega
theorem BXG {K : Int} {s : Stm} (h : StmB K s) (hK : K <= 1000000000000000) (hb : s.bs.length ≠ 0) : 0 <= VF s /\ VF s < 251 := by
 have hm := h.mix
 have hn := BWZ h hK hb
 have e1 : wr (5 * s.mix) = 5 * s.mix := FH (by omega) (by omega)
 have e2 : wr (5 * s.mix + IV s) = 5 * s.mix + IV s := FH (by omega) (by omega)
 have e3 : wr (5 * s.mix + IV s + 1) = 5 * s.mix + IV s + 1 := FH (by omega) (by omega)
 unfold VF
 rw [e1, e2, e3]
 exact BPV (by omega) (by omega)
theorem CHR {s : Stm} {n : Int} (h : idle s n = false) : 2 <= n /\ s.bs.length ≠ 0 := by
 unfold idle at h
 by_cases x : n < 2
 ·rw [if_pos x] at h; cases h
 ·rw [if_neg x] at h; exact ⟨by omega, by simpa using h⟩
theorem StmB.mono {K M : Int} {s : Stm} (h : StmB K s) (hK : K <= M) : StmB M s := ⟨⟨h.used.1, by have := h.used; omega⟩, h.mix, h.bs⟩
theorem StmB.next {K : Int} {s : Stm} (h : StmB K s) (hK : K <= 1000000000000000) (n : Int) : StmB (K + 1) (BB s n) := by
 unfold BB
 cases hi : idle s n with
 | true => exact h.mono (by omega)
 | false =>
  obtain ⟨_, hb⟩ := CHR hi
  have hu := h.used
  have e : wr (s.used + 1) = s.used + 1 := FH (by omega) (by omega)
  refine ⟨?_, BXG h hK hb, h.bs⟩
  show 0 <= wr (s.used + 1) /\ wr (s.used + 1) <= K + 1
  rw [e]; omega
theorem GB {K : Int} {s : Stm} (h : StmB K s) (hK : K <= 1000000000000000) (n : Int) : 0 <= AQ s n /\ (1 <= n -> AQ s n < n) := by
 unfold AQ
 cases hi : idle s n with
 | true => exact ⟨Int.le_refl _, λ h => by show (0 : Int) < n; omega⟩
 | false =>
  obtain ⟨hn, hb⟩ := CHR hi
  have h1 := BWZ h hK hb
  have h2 := BXG h hK hb
  have e1 : wr (256 * IV s) = 256 * IV s := FH (by omega) (by omega)
  have e2 : wr (256 * IV s + VF s) = 256 * IV s + VF s := FH (by omega) (by omega)
  rw [e1, e2]
  have := BPV (a := if 256 < n then 256 * IV s + VF s else IV s) (b := n) (by split <;> omega) (by omega)
  exact ⟨this.1, λ _ => this.2⟩
theorem Wz {K : Int} {s : Stm} (h : StmB K s) (hK : K <= 1000000000000000) {lo hi : Int} (h1 : -1000000000 <= lo) (h2 : lo <= hi) (h3 : hi <= 1000000000) : lo <= SK s lo hi /\ SK s lo hi <= hi := by
 have e1 : wr (hi - lo) = hi - lo := FH (by omega) (by omega)
 have e2 : wr (hi - lo + 1) = hi - lo + 1 := FH (by omega) (by omega)
 unfold SK witN
 rw [e1, e2]
 have := GB h hK (hi - lo + 1)
 have h4 := this.2 (by omega)
 have e3 : wr (lo + AQ s (hi - lo + 1)) = lo + AQ s (hi - lo + 1) := FH (by omega) (by omega)
 rw [e3]; omega
end Go.Bal
