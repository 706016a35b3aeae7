/- Package chart: streams of numbers: New, Next, Within, Pick. -/
import Derived.Test.YtdbjalgfomknhaaChP
set_option linter.unusedVariables false
set_option linter.unusedSimpArgs false
namespace Go.Bal.DL
open Go.Sym Go
theorem m1 (n : Int) : BU (.v (.int .u8 n)) = n := rfl
end Go.Bal.DL
namespace Go.Bal
open Go Go.Sym Go.Proofs
structure Stm where
 bs : List Int
 used : Int
 mix : Int
 deriving Inhabited
end Go.Bal
namespace Go.Bal.DL
theorem m2 (s : Stm) : Stm.mk s.bs s.used s.mix = s := rfl
end Go.Bal.DL
namespace Go.Bal
open Go Go.Sym Go.Proofs
def eBys (l : List Int) : DVal := lst 1 l.length λ i => .v (.int .u8 (gD l i))
def stmO (s : Stm) : AObj := .box [.d (eBys s.bs), .int s.used, .int s.mix]
def stmH (s : Stm) : HCell := .live (stmO s)
def BZC (H : Heap) (id : Nat) : Option Stm := match H id with
 | .live (.box [.d (.list _ n g _), .d (.v (.int _ u)), .d (.v (.int _ m))]) => some ⟨AE n λ i => BU (g i), u, m⟩
 | _ => none
def C_New : Ctr := { α := List Int, xs := λ l => [.d (eBys l)], L := λ _ => [], val := λ _ => .bptr 0 0, keep := λ l => [(0, stmH ⟨l, 0, 0⟩)] }
def CRL : List AVal -> Heap -> Option (List Int × List (Nat × Nat) × List Nat)
 | [.d (.list _ n g _)], _ => some (AE n λ i => BU (g i), [], [])
 | _, _ => none
def CRW (l : List Int) : Prop := AW Try.prog (ann 6 []) CKD (AK CKD) (C_New.xs l) (AF []) (C_New.val l) (C_New.keep l) [(0, 2032)] []
theorem CVQ (l : List Int) : (CRW l) = (l.length = l.length /\ (∀ (i : Nat), i < l.length -> gD l i = gD l i) /\ (0 : Int) = Int.ofNat (0 : Nat) /\ (0 : Int) = Int.ofNat (0 : Nat)) := by kernel_rfl
def IM (s : Stm) : Int := if s.bs.length <= s.used then wr (wr (gD s.bs (s.used.tmod s.bs.length).toNat) + wr (wr (11 * s.mix) + wr (s.used.tdiv s.bs.length))) else wr (gD s.bs (s.used.tmod s.bs.length).toNat)
def UY (s : Stm) : Int := (wr (wr (wr (5 * s.mix) + IM s) + 1)).tmod 251
def idle (s : Stm) (n : Int) : Bool := if n < 2 then true else decide (s.bs.length = 0)
def AQ (s : Stm) (n : Int) : Stm := if idle s n then s else ⟨s.bs, wr (s.used + 1), UY s⟩
def AN (s : Stm) (n : Int) : Int := if idle s n then 0 else (if 256 < n then wr (wr (256 * IM s) + UY s) else IM s).tmod n
structure SN where
 s : Stm
 n : Int
def C_Next : Ctr := { α := SN, xs := λ a => [.bptr 100 0, .int a.n], L := λ a => [(100, stmO a.s)], val := λ a => .int (AN a.s a.n), keep := λ a => [(100, stmH (AQ a.s a.n))], pre := λ a => [0 <= a.s.used] }
def BXK : List AVal -> Heap -> Option (SN × List (Nat × Nat) × List Nat)
 | [.bptr p _, .d (.v (.int _ n))], H => match BZC H p with
  | some s => some (⟨s, n⟩, [(100, p)], [])
  | none => none
 | _, _ => none
def CLB : Ann := { ann 92 [] with E := [100] }
def CGM (a : SN) : Prop := AW Try.prog CLB BZI (AK BZI) (C_Next.xs a) (AF (C_Next.L a)) (C_Next.val a) (C_Next.keep a) [] []
abbrev xL (a : SN) : Prop := (AQ a.s a.n).bs.length = a.s.bs.length
abbrev zK (a : SN) : Prop := ∀ (i : Nat), i < (AQ a.s a.n).bs.length -> gD (AQ a.s a.n).bs i = gD a.s.bs i
abbrev wH (a : SN) : Int := a.s.used.tmod (↑a.s.bs.length : Int)
abbrev ASI : Prop := Int.ofNat (251 : Nat) = Int.ofNat (0 : Nat) -> False
abbrev AWX (a : SN) : Bool := decide (a.n > (256 : Int))
abbrev Rg (a : SN) : Prop := a.n = (0 : Int) -> False
abbrev Rf (a : SN) : Int := IntKind.i64.wrap (gD a.s.bs (wH a).toNat)
abbrev vE (a : SN) : Int := IntKind.i64.wrap (Rf a + IntKind.i64.wrap (IntKind.i64.wrap ((11 : Int) * a.s.mix) + IntKind.i64.wrap (a.s.used.tdiv (↑a.s.bs.length : Int))))
abbrev BAR (a : SN) : Int := IntKind.i64.wrap ((5 : Int) * a.s.mix)
abbrev BEI (a : SN) : Int := (IntKind.i64.wrap (IntKind.i64.wrap (BAR a + vE a) + (1 : Int))).tmod (251 : Int)
abbrev AJN (a : SN) : Prop := (AQ a.s a.n).used = IntKind.i64.wrap (a.s.used + (1 : Int))
abbrev X8 (a : SN) : Prop := xL a /\ zK a /\ AJN a /\ (AQ a.s a.n).mix = BEI a
abbrev ACX (a : SN) : Int := (IntKind.i64.wrap (IntKind.i64.wrap (BAR a + Rf a) + (1 : Int))).tmod (251 : Int)
abbrev ADP (a : SN) : Prop := xL a /\ zK a /\ AJN a /\ (AQ a.s a.n).mix = ACX a
theorem COH (a : SN) : (CGM a) = (bif bif decide (a.n < (2 : Int)) then true else (↑a.s.bs.length : Int) == (0 : Int) then AN a.s a.n = (0 : Int) /\ xL a /\ zK a /\ (AQ a.s a.n).used = a.s.used /\
 (AQ a.s a.n).mix = a.s.mix else ((↑a.s.bs.length : Int) ≠ (0 : Int) /\ (0 : Int) <= wH a /\ wH a < (↑a.s.bs.length : Int)) /\ bif decide (a.s.used >= (↑a.s.bs.length : Int)) then ((↑a.s.bs.length : Int) = (0 :
 Int) -> False) /\ ASI /\ bif AWX a then Rg a /\ AN a.s a.n = (IntKind.i64.wrap (IntKind.i64.wrap ((256 : Int) * vE a) + BEI a)).tmod a.n /\ X8 a else Rg a /\ AN a.s a.n = (vE
 a).tmod a.n /\ X8 a else ASI /\ bif AWX a then Rg a /\ AN a.s a.n = (IntKind.i64.wrap (IntKind.i64.wrap ((256 : Int) * Rf a) + ACX a)).tmod a.n /\ ADP a else Rg a /\ AN a.s
 a.n = (Rf a).tmod a.n /\ ADP a) := by kernel_rfl
def witN (lo hi : Int) : Int := wr (wr (hi - lo) + 1)
def UE (s : Stm) (lo hi : Int) : Int := wr (lo + AN s (witN lo hi))
def KH (s : Stm) (lo hi : Int) : Stm := AQ s (witN lo hi)
structure SW where
 s : Stm
 lo : Int
 hi : Int
def C_Within : Ctr := { α := SW, xs := λ a => [.bptr 100 0, .int a.lo, .int a.hi], L := λ a => [(100, stmO a.s)], val := λ a => .int (UE a.s a.lo a.hi), keep := λ a => [(100, stmH (KH a.s a.lo a.hi))], pre := λ a => [0 <= a.s.used] }
def BWY : List AVal -> Heap -> Option (SW × List (Nat × Nat) × List Nat)
 | [.bptr p _, .d (.v (.int _ n)), .d (.v (.int _ m))], H => match BZC H p with
  | some s => some (⟨s, n, m⟩, [(100, p)], [])
  | none => none
 | _, _ => none
def BWT : Ann := { ann 15 [(BLC, C_Next.spec BXK)] with E := [100] }
def BWZ (a : SW) : Prop := AW Try.prog BWT ASJ (AK ASJ) (C_Within.xs a) (AF (C_Within.L a)) (C_Within.val a) (C_Within.keep a) [] []
theorem CDZ (a : SW) : (BWZ a) = ((IntKind.i64.wrap (IntKind.i64.wrap (a.hi - a.lo) + 1) = IntKind.i64.wrap (IntKind.i64.wrap (a.hi - a.lo) + 1) /\ (AE a.s.bs.length λ (i : Nat) => gD a.s.bs i).length =
 a.s.bs.length /\ (∀ (i : Nat), i < (AE a.s.bs.length λ (i : Nat) => gD a.s.bs i).length -> gD (AE a.s.bs.length λ (i : Nat) => gD a.s.bs i) i = gD a.s.bs i) /\ a.s.used = a.s.used /\ a.s.mix = a.s.mix /\ (a.s.used -
 0).NonNeg) /\ UE a.s a.lo a.hi = IntKind.i64.wrap (a.lo + AN (Stm.mk (AE a.s.bs.length λ (i : Nat) => gD a.s.bs i) a.s.used a.s.mix) (IntKind.i64.wrap (IntKind.i64.wrap (a.hi - a.lo) + 1))) /\ (KH a.s a.lo
 a.hi).bs.length = (AQ (Stm.mk (AE a.s.bs.length λ (i : Nat) => gD a.s.bs i) a.s.used a.s.mix) (IntKind.i64.wrap (IntKind.i64.wrap (a.hi - a.lo) + 1))).bs.length /\ (∀ (i : Nat), i < (KH a.s a.lo a.hi).bs.length ->
 gD (KH a.s a.lo a.hi).bs i = gD (AQ (Stm.mk (AE a.s.bs.length λ (i : Nat) => gD a.s.bs i) a.s.used a.s.mix) (IntKind.i64.wrap (IntKind.i64.wrap (a.hi - a.lo) + 1))).bs i) /\ (KH a.s a.lo a.hi).used = (AQ
 (Stm.mk (AE a.s.bs.length λ (i : Nat) => gD a.s.bs i) a.s.used a.s.mix) (IntKind.i64.wrap (IntKind.i64.wrap (a.hi - a.lo) + 1))).used /\ (KH a.s a.lo a.hi).mix = (AQ (Stm.mk (AE a.s.bs.length λ (i : Nat) => gD
 a.s.bs i) a.s.used a.s.mix) (IntKind.i64.wrap (IntKind.i64.wrap (a.hi - a.lo) + 1))).mix) := by kernel_rfl
def FQ (v n : Int) : Int := if n < 1 then 0 else if v.tmod n < 0 then wr (v.tmod n + n) else v.tmod n
def CJC (v n : Int) : Prop := AW Try.prog (ann 16 []) BYL (AK BYL) [.int v, .int n] (AF []) (.int (FQ v n)) [] [] []
theorem COZ (v : Int) (n : Int) : (CJC v n) = (bif decide (n < 1) then FQ v n = 0 else (n = 0 -> False) /\ bif decide (v.tmod n < 0) then FQ v n = IntKind.i64.wrap (v.tmod n + n) else FQ v n = v.tmod n) :=
 by kernel_rfl
def CGO : List AVal -> Option (AVal × List Prop)
 | [.d (.v (.int .i64 a)), .d (.v (.int .i64 b))] => some (.int (FQ a b), [])
 | _ => none
def CIC := Nl CGO
theorem CYP (l : List Int) : CRW l := by
 rw [CVQ]; exact ⟨rfl, λ _ _ => rfl, rfl, rfl⟩
theorem CHN : AL Try.prog CGN (C_New.spec CRL) := KV C_New (λ _ => ann 6 []) [(0, 2032)] [] CTF (λ _ => by kernel_rfl) (λ _ => AI) (λ l _ => CYP l) (λ _ => MD rfl rfl) _
theorem CVE (s : Stm) (n : Int) : (bif decide (n < 2) then true else (s.bs.length : Int) == 0) = idle s n := by
 unfold idle
 by_cases h : n < 2
 ·simp [h]
 ·simp only [h, decide_false, cond_false, if_false]
  by_cases h2 : s.bs.length = 0
  ·simp [h2]
  ·have : ¬ (s.bs.length : Int) = 0 := by omega
   simp [h2]
theorem CMV {a b : Int} (ha : 0 <= a) (hb : 0 < b) : 0 <= a.tmod b /\ a.tmod b < b := by
 rw [Int.tmod_eq_emod_of_nonneg ha]
 exact ⟨Int.emod_nonneg _ (by omega), Int.emod_lt_of_pos _ hb⟩
theorem CUK (a : SN) (h : 0 <= a.s.used) : CGM a := by
 rw [COH]; delta xL zK wH ASI AWX Rg Rf vE BAR BEI AJN X8 ACX ADP; simp only [CC, eq_self, implies_true, forall_const, CVE]
 refine ⟨λ hi => ?_, λ hi => ?_⟩
 ·have e1 : AN a.s a.n = 0 := by unfold AN; rw [hi]; rfl
  have e2 : AQ a.s a.n = a.s := by unfold AQ; rw [hi]; rfl
  rw [e1, e2]; exact ⟨rfl, rfl, λ _ _ => rfl, rfl, rfl⟩
 have hi2 : ¬ a.n < 2 /\ ¬ a.s.bs.length = 0 := by
  unfold idle at hi
  by_cases x : a.n < 2
  ·rw [if_pos x] at hi; cases hi
  ·rw [if_neg x] at hi; exact ⟨x, by simpa using hi⟩
 obtain ⟨i1, i2⟩ := hi2
 have e1 : AN a.s a.n = (if 256 < a.n then wr (wr (256 * IM a.s) + UY a.s) else IM a.s).tmod a.n := by unfold AN; rw [hi]; rfl
 have e2 : AQ a.s a.n = ⟨a.s.bs, wr (a.s.used + 1), UY a.s⟩ := by unfold AQ; rw [hi]; rfl
 have hm := CMV h (show 0 < (a.s.bs.length : Int) by omega)
 rw [e1, e2]
 refine ⟨⟨by omega, hm⟩, λ hu => ⟨by omega, by decide, λ hn => ⟨by omega, ?_⟩, λ hn => ⟨by omega, ?_⟩⟩, λ hu => ⟨by decide, λ hn => ⟨by omega, ?_⟩, λ hn => ⟨by omega, ?_⟩⟩⟩
 ·rw [if_pos (by omega)]; unfold UY IM; rw [if_pos (by omega)]; exact ⟨rfl, rfl, λ _ _ => rfl, rfl, rfl⟩
 ·rw [if_neg (by omega)]; unfold UY IM; rw [if_pos (by omega)]; exact ⟨rfl, rfl, λ _ _ => rfl, rfl, rfl⟩
 ·rw [if_pos (by omega)]; unfold UY IM; rw [if_neg (by omega)]; exact ⟨rfl, rfl, λ _ _ => rfl, rfl, rfl⟩
 ·rw [if_neg (by omega)]; unfold UY IM; rw [if_neg (by omega)]; exact ⟨rfl, rfl, λ _ _ => rfl, rfl, rfl⟩
theorem CBU : AL Try.prog BLC (C_Next.spec BXK) := KV C_Next (λ _ => CLB) [] [] COI (λ _ => by kernel_rfl) (λ _ => AI) (λ a h => CUK a h) (λ _ => MD rfl rfl) _
theorem CLI (a : SW) (h : 0 <= a.s.used) : BWZ a := by
 rw [CDZ]; simp only [CC, eq_self, implies_true, forall_const]
 exact ⟨h, rfl, rfl, λ _ _ => rfl, rfl, rfl⟩
theorem CEY : AL Try.prog AUJ (C_Within.spec BWY) := KV C_Within (λ _ => BWT) [] [] CFB (λ _ => by kernel_rfl) (λ _ => AD CBU AI) (λ a h => CLI a h) (λ _ => MD rfl rfl) _
theorem CTV (a b : Int) : CJC a b := by
 rw [COZ]; simp only [CC, eq_self, implies_true, forall_const]
 unfold FQ
 refine ⟨λ h => if_pos h, λ h => ⟨by omega, λ h2 => ?_, λ h2 => ?_⟩⟩
 ·rw [if_neg h, if_pos h2]; rfl
 ·rw [if_neg h, if_neg h2]
theorem CBO : AL Try.prog CAI CIC := Xs λ xs v p h _ => by
 unfold CGO at h; split at h
 ·cases h; exact QX (A := ann 16 []) (ren := []) (fz := []) CPE (by kernel_rfl) AI (CTV _ _)
 ·cases h
structure StmB (K : Int) (s : Stm) : Prop where
 used : 0 <= s.used /\ s.used <= K
 mix : 0 <= s.mix /\ s.mix < 251
 bs : ∀ i, i < s.bs.length -> 0 <= gD s.bs i /\ gD s.bs i <= 255
theorem BNL {a b : Int} (ha : 0 <= a) (hb : 0 < b) : 0 <= a.tmod b /\ a.tmod b < b := by
 rw [Int.tmod_eq_emod_of_nonneg ha]
 exact ⟨Int.emod_nonneg _ (by omega), Int.emod_lt_of_pos _ hb⟩
theorem BVT {K : Int} {s : Stm} (h : StmB K s) (hK : K <= 1000000000000000) (hb : s.bs.length ≠ 0) : 0 <= IM s /\ IM s <= 1000000000010000 := by
 have hu := h.used
 have hm := h.mix
 have hi := BNL hu.1 (show 0 < (s.bs.length : Int) by omega)
 have hx := h.bs (s.used.tmod s.bs.length).toNat (by omega)
 have hq : 0 <= s.used.tdiv s.bs.length /\ s.used.tdiv s.bs.length <= 1000000000000000 := by
  rw [Int.tdiv_eq_ediv_of_nonneg hu.1]
  refine ⟨Int.ediv_nonneg hu.1 (by omega), ?_⟩
  have := Int.ediv_le_self (s.bs.length : Int) hu.1
  omega
 have e0 : wr (gD s.bs (s.used.tmod s.bs.length).toNat) = gD s.bs (s.used.tmod s.bs.length).toNat := CP (by omega) (by omega)
 have e1 : wr (11 * s.mix) = 11 * s.mix := CP (by omega) (by omega)
 have e2 : wr (s.used.tdiv s.bs.length) = s.used.tdiv s.bs.length := CP (by omega) (by omega)
 have e3 : wr (11 * s.mix + s.used.tdiv s.bs.length) = 11 * s.mix + s.used.tdiv s.bs.length := CP (by omega) (by omega)
 have e4 : wr (gD s.bs (s.used.tmod s.bs.length).toNat + (11 * s.mix + s.used.tdiv s.bs.length)) = gD s.bs (s.used.tmod s.bs.length).toNat + (11 * s.mix + s.used.tdiv s.bs.length) := CP (by omega) (by omega)
 unfold IM
 rw [e0, e1, e2, e3, e4]
 split <;> omega
theorem BUF {K : Int} {s : Stm} (h : StmB K s) (hK : K <= 1000000000000000) (hb : s.bs.length ≠ 0) : 0 <= UY s /\ UY s < 251 := by
 have hm := h.mix
 have hn := BVT h hK hb
 have e1 : wr (5 * s.mix) = 5 * s.mix := CP (by omega) (by omega)
 have e2 : wr (5 * s.mix + IM s) = 5 * s.mix + IM s := CP (by omega) (by omega)
 have e3 : wr (5 * s.mix + IM s + 1) = 5 * s.mix + IM s + 1 := CP (by omega) (by omega)
 unfold UY
 rw [e1, e2, e3]
 exact BNL (by omega) (by omega)
theorem CIB {s : Stm} {n : Int} (h : idle s n = false) : 2 <= n /\ s.bs.length ≠ 0 := by
 unfold idle at h
 by_cases x : n < 2
 ·rw [if_pos x] at h; cases h
 ·rw [if_neg x] at h; exact ⟨by omega, by simpa using h⟩
theorem StmB.mono {K M : Int} {s : Stm} (h : StmB K s) (hK : K <= M) : StmB M s := ⟨⟨h.used.1, by have := h.used; omega⟩, h.mix, h.bs⟩
theorem StmB.next {K : Int} {s : Stm} (h : StmB K s) (hK : K <= 1000000000000000) (n : Int) : StmB (K + 1) (AQ s n) := by
 unfold AQ
 cases hi : idle s n with
 | true => exact h.mono (by omega)
 | false =>
  obtain ⟨_, hb⟩ := CIB hi
  have hu := h.used
  have e : wr (s.used + 1) = s.used + 1 := CP (by omega) (by omega)
  refine ⟨?_, BUF h hK hb, h.bs⟩
  show 0 <= wr (s.used + 1) /\ wr (s.used + 1) <= K + 1
  rw [e]; omega
theorem FN {K : Int} {s : Stm} (h : StmB K s) (hK : K <= 1000000000000000) (n : Int) : 0 <= AN s n /\ (1 <= n -> AN s n < n) := by
 unfold AN
 cases hi : idle s n with
 | true => exact ⟨Int.le_refl _, λ h => by show (0 : Int) < n; omega⟩
 | false =>
  obtain ⟨hn, hb⟩ := CIB hi
  have h1 := BVT h hK hb
  have h2 := BUF h hK hb
  have e1 : wr (256 * IM s) = 256 * IM s := CP (by omega) (by omega)
  have e2 : wr (256 * IM s + UY s) = 256 * IM s + UY s := CP (by omega) (by omega)
  rw [e1, e2]
  have := BNL (a := if 256 < n then 256 * IM s + UY s else IM s) (b := n) (by split <;> omega) (by omega)
  exact ⟨this.1, λ _ => this.2⟩
theorem Zc {K : Int} {s : Stm} (h : StmB K s) (hK : K <= 1000000000000000) {lo hi : Int} (h1 : -1000000000 <= lo) (h2 : lo <= hi) (h3 : hi <= 1000000000) : lo <= UE s lo hi /\ UE s lo hi <= hi := by
 have e1 : wr (hi - lo) = hi - lo := CP (by omega) (by omega)
 have e2 : wr (hi - lo + 1) = hi - lo + 1 := CP (by omega) (by omega)
 unfold UE witN
 rw [e1, e2]
 have := FN h hK (hi - lo + 1)
 have h4 := this.2 (by omega)
 have e3 : wr (lo + AN s (hi - lo + 1)) = lo + AN s (hi - lo + 1) := CP (by omega) (by omega)
 rw [e3]; omega
end Go.Bal
