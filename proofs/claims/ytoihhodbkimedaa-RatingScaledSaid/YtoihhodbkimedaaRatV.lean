/- Package rating: streams of numbers: New, Next, Within, Pick. -/
import Derived.Test.YtoihhodbkimedaaRatU
set_option linter.unusedVariables false
set_option linter.unusedSimpArgs false
namespace Go.Bal.DL
open Go.Sym Go
theorem m1 (n : Int) : DK (.v (.int .u8 n)) = n := rfl
end Go.Bal.DL
namespace Go.Bal
open Go Go.Sym Go.Proofs
structure Stm where
 bs : List Int
 used : Int
 mix : Int
 deriving Inhabited
end Go.Bal
namespace Go.Bal.DL
theorem m2 (s : Stm) : Stm.mk s.bs s.used s.mix = s := rfl
end Go.Bal.DL
namespace Go.Bal
open Go Go.Sym Go.Proofs
def eBys (l : List Int) : DVal := lst 1 l.length λ i => .v (.int .u8 (gD l i))
def stmO (s : Stm) : AObj := .box [.d (eBys s.bs), .int s.used, .int s.mix]
def stmH (s : Stm) : HCell := .live (stmO s)
def BOW (H : Heap) (id : Nat) : Option Stm := match H id with
 | .live (.box [.d (.list _ n g _), .d (.v (.int _ u)), .d (.v (.int _ m))]) => some ⟨AD n λ i => DK (g i), u, m⟩
 | _ => none
def C_New : Ctr := { α := List Int, xs := λ l => [.d (eBys l)], L := λ _ => [], val := λ _ => .bptr 0 0, keep := λ l => [(0, stmH ⟨l, 0, 0⟩)] }
def CIR : List AVal -> Heap -> Option (List Int × List (Nat × Nat) × List Nat)
 | [.d (.list _ n g _)], _ => some (AD n λ i => DK (g i), [], [])
 | _, _ => none
def CHN (l : List Int) : Prop := AY Try.prog (ann 6 []) BXY (AF BXY) (C_New.xs l) (AC []) (C_New.val l) (C_New.keep l) [(0, 2032)] []
theorem CLG (l : List Int) : (CHN l) = (l.length = l.length /\ (∀ (i : Nat), i < l.length -> gD l i = gD l i) /\ (0 : Int) = Int.ofNat (0 : Nat) /\ (0 : Int) = Int.ofNat (0 : Nat)) := by kernel_rfl
def IM (s : Stm) : Int := if s.bs.length <= s.used then wr (wr (gD s.bs (s.used.tmod s.bs.length).toNat) + wr (wr (11 * s.mix) + wr (s.used.tdiv s.bs.length))) else wr (gD s.bs (s.used.tmod s.bs.length).toNat)
def VJ (s : Stm) : Int := (wr (wr (wr (5 * s.mix) + IM s) + 1)).tmod 251
def idle (s : Stm) (n : Int) : Bool := if n < 2 then true else decide (s.bs.length = 0)
def BF (s : Stm) (n : Int) : Stm := if idle s n then s else ⟨s.bs, wr (s.used + 1), VJ s⟩
def AN (s : Stm) (n : Int) : Int := if idle s n then 0 else (if 256 < n then wr (wr (256 * IM s) + VJ s) else IM s).tmod n
structure SN where
 s : Stm
 n : Int
def C_Next : Ctr := { α := SN, xs := λ a => [.bptr 100 0, .int a.n], L := λ a => [(100, stmO a.s)], val := λ a => .int (AN a.s a.n), keep := λ a => [(100, stmH (BF a.s a.n))], pre := λ a => [0 <= a.s.used] }
def mU : List AVal -> Heap -> Option (SN × List (Nat × Nat) × List Nat)
 | [.bptr p _, .d (.v (.int _ n))], H => match BOW H p with
  | some s => some (⟨s, n⟩, [(100, p)], [])
  | none => none
 | _, _ => none
def BWF : Ann := { ann 92 [] with E := [100] }
def BZI (a : SN) : Prop := AY Try.prog BWF BME (AF BME) (C_Next.xs a) (AC (C_Next.L a)) (C_Next.val a) (C_Next.keep a) [] []
abbrev vK (a : SN) : Prop := (BF a.s a.n).bs.length = a.s.bs.length
abbrev tO (a : SN) : Prop := ∀ (i : Nat), i < (BF a.s a.n).bs.length -> gD (BF a.s a.n).bs i = gD a.s.bs i
abbrev sS (a : SN) : Int := a.s.used.tmod (↑a.s.bs.length : Int)
abbrev AOW : Prop := Int.ofNat (251 : Nat) = Int.ofNat (0 : Nat) -> False
abbrev AOH (a : SN) : Bool := decide (a.n > (256 : Int))
abbrev Lk (a : SN) : Prop := a.n = (0 : Int) -> False
abbrev Ix (a : SN) : Int := IntKind.i64.wrap (gD a.s.bs (sS a).toNat)
abbrev pS (a : SN) : Int := IntKind.i64.wrap (Ix a + IntKind.i64.wrap (IntKind.i64.wrap ((11 : Int) * a.s.mix) + IntKind.i64.wrap (a.s.used.tdiv (↑a.s.bs.length : Int))))
abbrev ANQ (a : SN) : Int := IntKind.i64.wrap ((5 : Int) * a.s.mix)
abbrev ATU (a : SN) : Int := (IntKind.i64.wrap (IntKind.i64.wrap (ANQ a + pS a) + (1 : Int))).tmod (251 : Int)
abbrev ABX (a : SN) : Prop := (BF a.s a.n).used = IntKind.i64.wrap (a.s.used + (1 : Int))
abbrev ADZ (a : SN) : Prop := vK a /\ tO a /\ ABX a /\ (BF a.s a.n).mix = ATU a
abbrev Z5 (a : SN) : Int := (IntKind.i64.wrap (IntKind.i64.wrap (ANQ a + Ix a) + (1 : Int))).tmod (251 : Int)
abbrev ACQ (a : SN) : Prop := vK a /\ tO a /\ ABX a /\ (BF a.s a.n).mix = Z5 a
theorem CHE (a : SN) : (BZI a) = (bif bif decide (a.n < (2 : Int)) then true else (↑a.s.bs.length : Int) == (0 : Int) then AN a.s a.n = (0 : Int) /\ vK a /\ tO a /\ (BF a.s a.n).used = a.s.used /\
 (BF a.s a.n).mix = a.s.mix else ((↑a.s.bs.length : Int) ≠ (0 : Int) /\ (0 : Int) <= sS a /\ sS a < (↑a.s.bs.length : Int)) /\ bif decide (a.s.used >= (↑a.s.bs.length : Int)) then ((↑a.s.bs.length : Int) = (0 :
 Int) -> False) /\ AOW /\ bif AOH a then Lk a /\ AN a.s a.n = (IntKind.i64.wrap (IntKind.i64.wrap ((256 : Int) * pS a) + ATU a)).tmod a.n /\ ADZ a else Lk a /\ AN a.s a.n = (pS
 a).tmod a.n /\ ADZ a else AOW /\ bif AOH a then Lk a /\ AN a.s a.n = (IntKind.i64.wrap (IntKind.i64.wrap ((256 : Int) * Ix a) + Z5 a)).tmod a.n /\ ACQ a else Lk a /\ AN a.s
 a.n = (Ix a).tmod a.n /\ ACQ a) := by kernel_rfl
def witN (lo hi : Int) : Int := wr (wr (hi - lo) + 1)
def JS (s : Stm) (lo hi : Int) : Int := wr (lo + AN s (witN lo hi))
def US (s : Stm) (lo hi : Int) : Stm := BF s (witN lo hi)
structure SW where
 s : Stm
 lo : Int
 hi : Int
def C_Within : Ctr := { α := SW, xs := λ a => [.bptr 100 0, .int a.lo, .int a.hi], L := λ a => [(100, stmO a.s)], val := λ a => .int (JS a.s a.lo a.hi), keep := λ a => [(100, stmH (US a.s a.lo a.hi))], pre := λ a => [0 <= a.s.used] }
def BJN : List AVal -> Heap -> Option (SW × List (Nat × Nat) × List Nat)
 | [.bptr p _, .d (.v (.int _ n)), .d (.v (.int _ m))], H => match BOW H p with
  | some s => some (⟨s, n, m⟩, [(100, p)], [])
  | none => none
 | _, _ => none
def BJV : Ann := { ann 15 [(N8, C_Next.spec mU)] with E := [100] }
def BJM (a : SW) : Prop := AY Try.prog BJV AKH (AF AKH) (C_Within.xs a) (AC (C_Within.L a)) (C_Within.val a) (C_Within.keep a) [] []
theorem BUX (a : SW) : (BJM a) = ((IntKind.i64.wrap (IntKind.i64.wrap (a.hi - a.lo) + 1) = IntKind.i64.wrap (IntKind.i64.wrap (a.hi - a.lo) + 1) /\ (AD a.s.bs.length λ (i : Nat) => gD a.s.bs i).length =
 a.s.bs.length /\ (∀ (i : Nat), i < (AD a.s.bs.length λ (i : Nat) => gD a.s.bs i).length -> gD (AD a.s.bs.length λ (i : Nat) => gD a.s.bs i) i = gD a.s.bs i) /\ a.s.used = a.s.used /\ a.s.mix = a.s.mix /\ (a.s.used -
 0).NonNeg) /\ JS a.s a.lo a.hi = IntKind.i64.wrap (a.lo + AN (Stm.mk (AD a.s.bs.length λ (i : Nat) => gD a.s.bs i) a.s.used a.s.mix) (IntKind.i64.wrap (IntKind.i64.wrap (a.hi - a.lo) + 1))) /\ (US a.s a.lo
 a.hi).bs.length = (BF (Stm.mk (AD a.s.bs.length λ (i : Nat) => gD a.s.bs i) a.s.used a.s.mix) (IntKind.i64.wrap (IntKind.i64.wrap (a.hi - a.lo) + 1))).bs.length /\ (∀ (i : Nat), i < (US a.s a.lo a.hi).bs.length ->
 gD (US a.s a.lo a.hi).bs i = gD (BF (Stm.mk (AD a.s.bs.length λ (i : Nat) => gD a.s.bs i) a.s.used a.s.mix) (IntKind.i64.wrap (IntKind.i64.wrap (a.hi - a.lo) + 1))).bs i) /\ (US a.s a.lo a.hi).used = (BF
 (Stm.mk (AD a.s.bs.length λ (i : Nat) => gD a.s.bs i) a.s.used a.s.mix) (IntKind.i64.wrap (IntKind.i64.wrap (a.hi - a.lo) + 1))).used /\ (US a.s a.lo a.hi).mix = (BF (Stm.mk (AD a.s.bs.length λ (i : Nat) => gD
 a.s.bs i) a.s.used a.s.mix) (IntKind.i64.wrap (IntKind.i64.wrap (a.hi - a.lo) + 1))).mix) := by kernel_rfl
def GE (v n : Int) : Int := if n < 1 then 0 else if v.tmod n < 0 then wr (v.tmod n + n) else v.tmod n
def BXP (v n : Int) : Prop := AY Try.prog (ann 16 []) BNG (AF BNG) [.int v, .int n] (AC []) (.int (GE v n)) [] [] []
theorem CFL (v : Int) (n : Int) : (BXP v n) = (bif decide (n < 1) then GE v n = 0 else (n = 0 -> False) /\ bif decide (v.tmod n < 0) then GE v n = IntKind.i64.wrap (v.tmod n + n) else GE v n = v.tmod n) :=
 by kernel_rfl
def CAK : List AVal -> Option (AVal × List Prop)
 | [.d (.v (.int .i64 a)), .d (.v (.int .i64 b))] => some (.int (GE a b), [])
 | _ => none
def CBN := It CAK
theorem CPL (l : List Int) : CHN l := by
 rw [CLG]; exact ⟨rfl, λ _ _ => rfl, rfl, rfl⟩
theorem CDF : AG Try.prog CDA (C_New.spec CIR) := JX C_New (λ _ => ann 6 []) [(0, 2032)] [] CMI (λ _ => by kernel_rfl) (λ _ => AE) (λ l _ => CPL l) (λ _ => KJ rfl rfl) _
theorem CMT (s : Stm) (n : Int) : (bif decide (n < 2) then true else (s.bs.length : Int) == 0) = idle s n := by
 unfold idle
 by_cases h : n < 2
 ·simp [h]
 ·simp only [h, decide_false, cond_false, if_false]
  by_cases h2 : s.bs.length = 0
  ·simp [h2]
  ·have : ¬ (s.bs.length : Int) = 0 := by omega
   simp [h2]
theorem CEE {a b : Int} (ha : 0 <= a) (hb : 0 < b) : 0 <= a.tmod b /\ a.tmod b < b := by
 rw [Int.tmod_eq_emod_of_nonneg ha]
 exact ⟨Int.emod_nonneg _ (by omega), Int.emod_lt_of_pos _ hb⟩
theorem CLW (a : SN) (h : 0 <= a.s.used) : BZI a := by
 rw [CHE]; delta vK tO sS AOW AOH Lk Ix pS ANQ ATU ABX ADZ Z5 ACQ; simp only [CC, eq_self, implies_true, forall_const, CMT]
 refine ⟨λ hi => ?_, λ hi => ?_⟩
 ·have e1 : AN a.s a.n = 0 := by unfold AN; rw [hi]; rfl
  have e2 : BF a.s a.n = a.s := by unfold BF; rw [hi]; rfl
  rw [e1, e2]; exact ⟨rfl, rfl, λ _ _ => rfl, rfl, rfl⟩
 have hi2 : ¬ a.n < 2 /\ ¬ a.s.bs.length = 0 := by
  unfold idle at hi
  by_cases x : a.n < 2
  ·rw [if_pos x] at hi; cases hi
  ·rw [if_neg x] at hi; exact ⟨x, by simpa using hi⟩
 obtain ⟨i1, i2⟩ := hi2
 have e1 : AN a.s a.n = (if 256 < a.n then wr (wr (256 * IM a.s) + VJ a.s) else IM a.s).tmod a.n := by unfold AN; rw [hi]; rfl
 have e2 : BF a.s a.n = ⟨a.s.bs, wr (a.s.used + 1), VJ a.s⟩ := by unfold BF; rw [hi]; rfl
 have hm := CEE h (show 0 < (a.s.bs.length : Int) by omega)
 rw [e1, e2]
 refine ⟨⟨by omega, hm⟩, λ hu => ⟨by omega, by decide, λ hn => ⟨by omega, ?_⟩, λ hn => ⟨by omega, ?_⟩⟩, λ hu => ⟨by decide, λ hn => ⟨by omega, ?_⟩, λ hn => ⟨by omega, ?_⟩⟩⟩
 ·rw [if_pos (by omega)]; unfold VJ IM; rw [if_pos (by omega)]; exact ⟨rfl, rfl, λ _ _ => rfl, rfl, rfl⟩
 ·rw [if_neg (by omega)]; unfold VJ IM; rw [if_pos (by omega)]; exact ⟨rfl, rfl, λ _ _ => rfl, rfl, rfl⟩
 ·rw [if_pos (by omega)]; unfold VJ IM; rw [if_neg (by omega)]; exact ⟨rfl, rfl, λ _ _ => rfl, rfl, rfl⟩
 ·rw [if_neg (by omega)]; unfold VJ IM; rw [if_neg (by omega)]; exact ⟨rfl, rfl, λ _ _ => rfl, rfl, rfl⟩
theorem Ra : AG Try.prog N8 (C_Next.spec mU) := JX C_Next (λ _ => BWF) [] [] CGX (λ _ => by kernel_rfl) (λ _ => AE) (λ a h => CLW a h) (λ _ => KJ rfl rfl) _
theorem BXZ (a : SW) (h : 0 <= a.s.used) : BJM a := by
 rw [BUX]; simp only [CC, eq_self, implies_true, forall_const]
 exact ⟨h, rfl, rfl, λ _ _ => rfl, rfl, rfl⟩
theorem BAW : AG Try.prog AOC (C_Within.spec BJN) := JX C_Within (λ _ => BJV) [] [] BUS (λ _ => by kernel_rfl) (λ _ => AB Ra AE) (λ a h => BXZ a h) (λ _ => KJ rfl rfl) _
theorem CLE (a b : Int) : BXP a b := by
 rw [CFL]; simp only [CC, eq_self, implies_true, forall_const]
 unfold GE
 refine ⟨λ h => if_pos h, λ h => ⟨by omega, λ h2 => ?_, λ h2 => ?_⟩⟩
 ·rw [if_neg h, if_pos h2]; rfl
 ·rw [if_neg h, if_neg h2]
theorem BQW : AG Try.prog BOP CBN := Lg λ xs v p h _ => by
 unfold CAK at h; split at h
 ·cases h; exact RD (A := ann 16 []) (ren := []) (fz := []) CDN (by kernel_rfl) AE (CLE _ _)
 ·cases h
structure StmB (K : Int) (s : Stm) : Prop where
 used : 0 <= s.used /\ s.used <= K
 mix : 0 <= s.mix /\ s.mix < 251
 bs : ∀ i, i < s.bs.length -> 0 <= gD s.bs i /\ gD s.bs i <= 255
theorem BEY {a b : Int} (ha : 0 <= a) (hb : 0 < b) : 0 <= a.tmod b /\ a.tmod b < b := by
 rw [Int.tmod_eq_emod_of_nonneg ha]
 exact ⟨Int.emod_nonneg _ (by omega), Int.emod_lt_of_pos _ hb⟩
theorem BKQ {K : Int} {s : Stm} (h : StmB K s) (hK : K <= 1000000000000000) (hb : s.bs.length ≠ 0) : 0 <= IM s /\ IM s <= 1000000000010000 := by
 have hu := h.used
 have hm := h.mix
 have hi := BEY hu.1 (show 0 < (s.bs.length : Int) by omega)
 have hx := h.bs (s.used.tmod s.bs.length).toNat (by omega)
 have hq : 0 <= s.used.tdiv s.bs.length /\ s.used.tdiv s.bs.length <= 1000000000000000 := by
  rw [Int.tdiv_eq_ediv_of_nonneg hu.1]
  refine ⟨Int.ediv_nonneg hu.1 (by omega), ?_⟩
  have := Int.ediv_le_self (s.bs.length : Int) hu.1
  omega
 have e0 : wr (gD s.bs (s.used.tmod s.bs.length).toNat) = gD s.bs (s.used.tmod s.bs.length).toNat := EO (by omega) (by omega)
 have e1 : wr (11 * s.mix) = 11 * s.mix := EO (by omega) (by omega)
 have e2 : wr (s.used.tdiv s.bs.length) = s.used.tdiv s.bs.length := EO (by omega) (by omega)
 have e3 : wr (11 * s.mix + s.used.tdiv s.bs.length) = 11 * s.mix + s.used.tdiv s.bs.length := EO (by omega) (by omega)
 have e4 : wr (gD s.bs (s.used.tmod s.bs.length).toNat + (11 * s.mix + s.used.tdiv s.bs.length)) = gD s.bs (s.used.tmod s.bs.length).toNat + (11 * s.mix + s.used.tdiv s.bs.length) := EO (by omega) (by omega)
 unfold IM
 rw [e0, e1, e2, e3, e4]
 split <;> omega
theorem BKW {K : Int} {s : Stm} (h : StmB K s) (hK : K <= 1000000000000000) (hb : s.bs.length ≠ 0) : 0 <= VJ s /\ VJ s < 251 := by
 have hm := h.mix
 have hn := BKQ h hK hb
 have e1 : wr (5 * s.mix) = 5 * s.mix := EO (by omega) (by omega)
 have e2 : wr (5 * s.mix + IM s) = 5 * s.mix + IM s := EO (by omega) (by omega)
 have e3 : wr (5 * s.mix + IM s + 1) = 5 * s.mix + IM s + 1 := EO (by omega) (by omega)
 unfold VJ
 rw [e1, e2, e3]
 exact BEY (by omega) (by omega)
theorem CAB {s : Stm} {n : Int} (h : idle s n = false) : 2 <= n /\ s.bs.length ≠ 0 := by
 unfold idle at h
 by_cases x : n < 2
 ·rw [if_pos x] at h; cases h
 ·rw [if_neg x] at h; exact ⟨by omega, by simpa using h⟩
theorem StmB.mono {K M : Int} {s : Stm} (h : StmB K s) (hK : K <= M) : StmB M s := ⟨⟨h.used.1, by have := h.used; omega⟩, h.mix, h.bs⟩
theorem StmB.next {K : Int} {s : Stm} (h : StmB K s) (hK : K <= 1000000000000000) (n : Int) : StmB (K + 1) (BF s n) := by
 unfold BF
 cases hi : idle s n with
 | true => exact h.mono (by omega)
 | false =>
  obtain ⟨_, hb⟩ := CAB hi
  have hu := h.used
  have e : wr (s.used + 1) = s.used + 1 := EO (by omega) (by omega)
  refine ⟨?_, BKW h hK hb, h.bs⟩
  show 0 <= wr (s.used + 1) /\ wr (s.used + 1) <= K + 1
  rw [e]; omega
theorem GV {K : Int} {s : Stm} (h : StmB K s) (hK : K <= 1000000000000000) (n : Int) : 0 <= AN s n /\ (1 <= n -> AN s n < n) := by
 unfold AN
 cases hi : idle s n with
 | true => exact ⟨Int.le_refl _, λ h => by show (0 : Int) < n; omega⟩
 | false =>
  obtain ⟨hn, hb⟩ := CAB hi
  have h1 := BKQ h hK hb
  have h2 := BKW h hK hb
  have e1 : wr (256 * IM s) = 256 * IM s := EO (by omega) (by omega)
  have e2 : wr (256 * IM s + VJ s) = 256 * IM s + VJ s := EO (by omega) (by omega)
  rw [e1, e2]
  have := BEY (a := if 256 < n then 256 * IM s + VJ s else IM s) (b := n) (by split <;> omega) (by omega)
  exact ⟨this.1, λ _ => this.2⟩
theorem Ry {K : Int} {s : Stm} (h : StmB K s) (hK : K <= 1000000000000000) {lo hi : Int} (h1 : -1000000000 <= lo) (h2 : lo <= hi) (h3 : hi <= 1000000000) : lo <= JS s lo hi /\ JS s lo hi <= hi := by
 have e1 : wr (hi - lo) = hi - lo := EO (by omega) (by omega)
 have e2 : wr (hi - lo + 1) = hi - lo + 1 := EO (by omega) (by omega)
 unfold JS witN
 rw [e1, e2]
 have := GV h hK (hi - lo + 1)
 have h4 := this.2 (by omega)
 have e3 : wr (lo + AN s (hi - lo + 1)) = lo + AN s (hi - lo + 1) := EO (by omega) (by omega)
 rw [e3]; omega
end Go.Bal
