/- TopOwed: streams of numbers: New, Next, Within. -/
import Derived.Test.YtgjkmndbkidgjaaGreatOwA
set_option linter.unusedVariables false
set_option linter.unusedSimpArgs false
namespace Go.Bal.DL
open Go.Sym Go
theorem m1 (n : Int) : CR (.v (.int .u8 n)) = n := rfl
end Go.Bal.DL
namespace Go.Bal
open Go Go.Sym Go.Proofs
structure Stm where
 bs : List Int
 used : Int
 mix : Int
 deriving Inhabited
end Go.Bal
namespace Go.Bal.DL
theorem m2 (s : Stm) : Stm.mk s.bs s.used s.mix = s := rfl
end Go.Bal.DL
namespace Go.Bal
open Go Go.Sym Go.Proofs
def eBys (l : List Int) : DVal := lst 1 l.length λ i => .v (.int .u8 (gD l i))
def stmO (s : Stm) : AObj := .box [.d (eBys s.bs), .int s.used, .int s.mix]
def stmH (s : Stm) : HCell := .live (stmO s)
def AEI (H : Heap) (id : Nat) : Option Stm := match H id with
 | .live (.box [.d (.list _ n g _), .d (.v (.int _ u)), .d (.v (.int _ m))]) => some ⟨AJ n λ i => CR (g i), u, m⟩
 | _ => none
def C_New : Ctr := { α := List Int, xs := λ l => [.d (eBys l)], L := λ _ => [], val := λ _ => .bptr 0 0, keep := λ l => [(0, stmH ⟨l, 0, 0⟩)] }
def AVI : List AVal -> Heap -> Option (List Int × List (Nat × Nat) × List Nat)
 | [.d (.list _ n g _)], _ => some (AJ n λ i => CR (g i), [], [])
 | _, _ => none
def AWQ (l : List Int) : Prop := BB Try.prog (ann 6 []) AQS (AS AQS) (C_New.xs l) (AK []) (C_New.val l) (C_New.keep l) [(0, 2032)] []
theorem BCI (l : List Int) : (AWQ l) = (l.length = l.length /\ (∀ (i : Nat), i < l.length -> gD l i = gD l i) /\ (0 : Int) = Int.ofNat (0 : Nat) /\ (0 : Int) = Int.ofNat (0 : Nat)) := by kernel_rfl
def HJ (s : Stm) : Int := if s.bs.length <= s.used then wr (wr (gD s.bs (s.used.tmod s.bs.length).toNat) + wr (wr (11 * s.mix) + wr (s.used.tdiv s.bs.length))) else wr (gD s.bs (s.used.tmod s.bs.length).toNat)
def PV (s : Stm) : Int := (wr (wr (wr (5 * s.mix) + HJ s) + 1)).tmod 251
def N4 (s : Stm) (n : Int) : Bool := if n < 2 then true else decide (s.bs.length = 0)
def BO (s : Stm) (n : Int) : Stm := if N4 s n then s else ⟨s.bs, wr (s.used + 1), PV s⟩
def BP (s : Stm) (n : Int) : Int := if N4 s n then 0 else (if 256 < n then wr (wr (256 * HJ s) + PV s) else HJ s).tmod n
structure SN where
 s : Stm
 n : Int
def C_Next : Ctr := { α := SN, xs := λ a => [.bptr 100 0, .int a.n], L := λ a => [(100, stmO a.s)], val := λ a => .int (BP a.s a.n), keep := λ a => [(100, stmH (BO a.s a.n))], pre := λ a => [0 <= a.s.used] }
def T4 : List AVal -> Heap -> Option (SN × List (Nat × Nat) × List Nat)
 | [.bptr p _, .d (.v (.int _ n))], H => match AEI H p with
  | some s => some (⟨s, n⟩, [(100, p)], [])
  | none => none
 | _, _ => none
def AOG : Ann := { ann 92 [] with E := [100] }
def AQP (a : SN) : Prop := BB Try.prog AOG AEJ (AS AEJ) (C_Next.xs a) (AK (C_Next.L a)) (C_Next.val a) (C_Next.keep a) [] []
abbrev Us (a : SN) : Prop := (BO a.s a.n).bs.length = a.s.bs.length
abbrev Uo (a : SN) : Prop := ∀ (i : Nat), i < (BO a.s a.n).bs.length -> gD (BO a.s a.n).bs i = gD a.s.bs i
abbrev Wg (a : SN) : Int := a.s.used.tmod (↑a.s.bs.length : Int)
abbrev uF : Prop := Int.ofNat (251 : Nat) = Int.ofNat (0 : Nat) -> False
abbrev oJ (a : SN) : Bool := decide (a.n > (256 : Int))
abbrev YU (a : SN) : Prop := a.n = (0 : Int) -> False
abbrev ZR (a : SN) : Int := IntKind.i64.wrap (gD a.s.bs (Wg a).toNat)
abbrev Ue (a : SN) : Int := IntKind.i64.wrap (ZR a + IntKind.i64.wrap (IntKind.i64.wrap ((11 : Int) * a.s.mix) + IntKind.i64.wrap (a.s.used.tdiv (↑a.s.bs.length : Int))))
abbrev sT (a : SN) : Int := IntKind.i64.wrap ((5 : Int) * a.s.mix)
abbrev oR (a : SN) : Int := (IntKind.i64.wrap (IntKind.i64.wrap (sT a + Ue a) + (1 : Int))).tmod (251 : Int)
abbrev Zv (a : SN) : Prop := (BO a.s a.n).used = IntKind.i64.wrap (a.s.used + (1 : Int))
abbrev eQ (a : SN) : Prop := Us a /\ Uo a /\ Zv a /\ (BO a.s a.n).mix = oR a
abbrev bW (a : SN) : Int := (IntKind.i64.wrap (IntKind.i64.wrap (sT a + ZR a) + (1 : Int))).tmod (251 : Int)
abbrev fA (a : SN) : Prop := Us a /\ Uo a /\ Zv a /\ (BO a.s a.n).mix = bW a
theorem ASK (a : SN) : (AQP a) = (bif bif decide (a.n < (2 : Int)) then true else (↑a.s.bs.length : Int) == (0 : Int) then BP a.s a.n = (0 : Int) /\ Us a /\ Uo a /\ (BO a.s a.n).used = a.s.used /\
 (BO a.s a.n).mix = a.s.mix else ((↑a.s.bs.length : Int) ≠ (0 : Int) /\ (0 : Int) <= Wg a /\ Wg a < (↑a.s.bs.length : Int)) /\ bif decide (a.s.used >= (↑a.s.bs.length : Int)) then ((↑a.s.bs.length : Int) = (0 :
 Int) -> False) /\ uF /\ bif oJ a then YU a /\ BP a.s a.n = (IntKind.i64.wrap (IntKind.i64.wrap ((256 : Int) * Ue a) + oR a)).tmod a.n /\ eQ a else YU a /\ BP a.s a.n = (Ue
 a).tmod a.n /\ eQ a else uF /\ bif oJ a then YU a /\ BP a.s a.n = (IntKind.i64.wrap (IntKind.i64.wrap ((256 : Int) * ZR a) + bW a)).tmod a.n /\ fA a else YU a /\ BP a.s
 a.n = (ZR a).tmod a.n /\ fA a) := by kernel_rfl
def witN (lo hi : Int) : Int := wr (wr (hi - lo) + 1)
def Fx (s : Stm) (lo hi : Int) : Int := wr (lo + BP s (witN lo hi))
def YO (s : Stm) (lo hi : Int) : Stm := BO s (witN lo hi)
structure SW where
 s : Stm
 lo : Int
 hi : Int
def C_Within : Ctr := { α := SW, xs := λ a => [.bptr 100 0, .int a.lo, .int a.hi], L := λ a => [(100, stmO a.s)], val := λ a => .int (Fx a.s a.lo a.hi), keep := λ a => [(100, stmH (YO a.s a.lo a.hi))], pre := λ a => [0 <= a.s.used] }
def ABV : List AVal -> Heap -> Option (SW × List (Nat × Nat) × List Nat)
 | [.bptr p _, .d (.v (.int _ n)), .d (.v (.int _ m))], H => match AEI H p with
  | some s => some (⟨s, n, m⟩, [(100, p)], [])
  | none => none
 | _, _ => none
def ABP : Ann := { ann 15 [(tK, C_Next.spec T4)] with E := [100] }
def ABQ (a : SW) : Prop := BB Try.prog ABP rH (AS rH) (C_Within.xs a) (AK (C_Within.L a)) (C_Within.val a) (C_Within.keep a) [] []
theorem AJH (a : SW) : (ABQ a) = ((IntKind.i64.wrap (IntKind.i64.wrap (a.hi - a.lo) + 1) = IntKind.i64.wrap (IntKind.i64.wrap (a.hi - a.lo) + 1) /\ (AJ a.s.bs.length λ (i : Nat) => gD a.s.bs i).length =
 a.s.bs.length /\ (∀ (i : Nat), i < (AJ a.s.bs.length λ (i : Nat) => gD a.s.bs i).length -> gD (AJ a.s.bs.length λ (i : Nat) => gD a.s.bs i) i = gD a.s.bs i) /\ a.s.used = a.s.used /\ a.s.mix = a.s.mix /\ (a.s.used -
 0).NonNeg) /\ Fx a.s a.lo a.hi = IntKind.i64.wrap (a.lo + BP (Stm.mk (AJ a.s.bs.length λ (i : Nat) => gD a.s.bs i) a.s.used a.s.mix) (IntKind.i64.wrap (IntKind.i64.wrap (a.hi - a.lo) + 1))) /\ (YO a.s a.lo
 a.hi).bs.length = (BO (Stm.mk (AJ a.s.bs.length λ (i : Nat) => gD a.s.bs i) a.s.used a.s.mix) (IntKind.i64.wrap (IntKind.i64.wrap (a.hi - a.lo) + 1))).bs.length /\ (∀ (i : Nat), i < (YO a.s a.lo a.hi).bs.length ->
 gD (YO a.s a.lo a.hi).bs i = gD (BO (Stm.mk (AJ a.s.bs.length λ (i : Nat) => gD a.s.bs i) a.s.used a.s.mix) (IntKind.i64.wrap (IntKind.i64.wrap (a.hi - a.lo) + 1))).bs i) /\ (YO a.s a.lo a.hi).used = (BO
 (Stm.mk (AJ a.s.bs.length λ (i : Nat) => gD a.s.bs i) a.s.used a.s.mix) (IntKind.i64.wrap (IntKind.i64.wrap (a.hi - a.lo) + 1))).used /\ (YO a.s a.lo a.hi).mix = (BO (Stm.mk (AJ a.s.bs.length λ (i : Nat) => gD
 a.s.bs i) a.s.used a.s.mix) (IntKind.i64.wrap (IntKind.i64.wrap (a.hi - a.lo) + 1))).mix) := by kernel_rfl
theorem BIO (l : List Int) : AWQ l := by
 rw [BCI]; exact ⟨rfl, λ _ _ => rfl, rfl, rfl⟩
theorem BCD : AR Try.prog ALT (C_New.spec AVI) := EX C_New (λ _ => ann 6 []) [(0, 2032)] [] AZK (λ _ => by kernel_rfl) (λ _ => AM) (λ l _ => BIO l) (λ _ => FK rfl rfl) _
theorem AZL (s : Stm) (n : Int) : (bif decide (n < 2) then true else (s.bs.length : Int) == 0) = N4 s n := by
 unfold N4
 by_cases h : n < 2
 ·simp [h]
 ·simp only [h, decide_false, cond_false, if_false]
  by_cases h2 : s.bs.length = 0
  ·simp [h2]
  ·have : ¬ (s.bs.length : Int) = 0 := by omega
   simp [h2]
theorem ATF {a b : Int} (ha : 0 <= a) (hb : 0 < b) : 0 <= a.tmod b /\ a.tmod b < b := by
 rw [Int.tmod_eq_emod_of_nonneg ha]
 exact ⟨Int.emod_nonneg _ (by omega), Int.emod_lt_of_pos _ hb⟩
theorem AYT (a : SN) (h : 0 <= a.s.used) : AQP a := by
 rw [ASK]; delta Us Uo Wg uF oJ YU ZR Ue sT oR Zv eQ bW fA; simp only [BF, eq_self, implies_true, and_self, true_and, and_true, true_implies, forall_const, decide_eq_true_eq, decide_eq_false_iff_not, Int.toNat_natCast, dSpan_eSpan, dInt_eInt, AV, BH, BJ, BC, Nat.zero_add, Int.zero_sub, Nat.le_eq, Nat.succ_eq_add_one, Nat.add_one_le_iff, Bool.not_eq_true', Bool.not_eq_false', rng_length, AT, AP, AZL]
 refine ⟨λ hi => ?_, λ hi => ?_⟩
 ·have e1 : BP a.s a.n = 0 := by unfold BP; rw [hi]; rfl
  have e2 : BO a.s a.n = a.s := by unfold BO; rw [hi]; rfl
  rw [e1, e2]; exact ⟨rfl, rfl, λ _ _ => rfl, rfl, rfl⟩
 have hi2 : ¬ a.n < 2 /\ ¬ a.s.bs.length = 0 := by
  unfold N4 at hi
  by_cases x : a.n < 2
  ·rw [if_pos x] at hi; cases hi
  ·rw [if_neg x] at hi; exact ⟨x, by simpa using hi⟩
 obtain ⟨i1, i2⟩ := hi2
 have e1 : BP a.s a.n = (if 256 < a.n then wr (wr (256 * HJ a.s) + PV a.s) else HJ a.s).tmod a.n := by unfold BP; rw [hi]; rfl
 have e2 : BO a.s a.n = ⟨a.s.bs, wr (a.s.used + 1), PV a.s⟩ := by unfold BO; rw [hi]; rfl
 have hm := ATF h (show 0 < (a.s.bs.length : Int) by omega)
 rw [e1, e2]
 refine ⟨⟨by omega, hm⟩, λ hu => ⟨by omega, by decide, λ hn => ⟨by omega, ?_⟩, λ hn => ⟨by omega, ?_⟩⟩, λ hu => ⟨by decide, λ hn => ⟨by omega, ?_⟩, λ hn => ⟨by omega, ?_⟩⟩⟩
 ·rw [if_pos (by omega)]; unfold PV HJ; rw [if_pos (by omega)]; exact ⟨rfl, rfl, λ _ _ => rfl, rfl, rfl⟩
 ·rw [if_neg (by omega)]; unfold PV HJ; rw [if_pos (by omega)]; exact ⟨rfl, rfl, λ _ _ => rfl, rfl, rfl⟩
 ·rw [if_pos (by omega)]; unfold PV HJ; rw [if_neg (by omega)]; exact ⟨rfl, rfl, λ _ _ => rfl, rfl, rfl⟩
 ·rw [if_neg (by omega)]; unfold PV HJ; rw [if_neg (by omega)]; exact ⟨rfl, rfl, λ _ _ => rfl, rfl, rfl⟩
theorem V1 : AR Try.prog tK (C_Next.spec T4) := EX C_Next (λ _ => AOG) [] [] AUB (λ _ => by kernel_rfl) (λ _ => AM) (λ a h => AYT a h) (λ _ => FK rfl rfl) _
theorem ALW (a : SW) (h : 0 <= a.s.used) : ABQ a := by
 rw [AJH]; simp only [BF, eq_self, implies_true, and_self, true_and, and_true, true_implies, forall_const, decide_eq_true_eq, decide_eq_false_iff_not, Int.toNat_natCast, dSpan_eSpan, dInt_eInt, AV, BH, BJ, BC, Nat.zero_add, Int.zero_sub, Nat.le_eq, Nat.succ_eq_add_one, Nat.add_one_le_iff, Bool.not_eq_true', Bool.not_eq_false', rng_length, AT, AP]
 exact ⟨h, rfl, rfl, λ _ _ => rfl, rfl, rfl⟩
theorem AKD : AR Try.prog qR (C_Within.spec ABV) := EX C_Within (λ _ => ABP) [] [] AKG (λ _ => by kernel_rfl) (λ _ => AH V1 AM) (λ a h => ALW a h) (λ _ => FK rfl rfl) _
structure StmB (K : Int) (s : Stm) : Prop where
 used : 0 <= s.used /\ s.used <= K
 mix : 0 <= s.mix /\ s.mix < 251
 bs : ∀ i, i < s.bs.length -> 0 <= gD s.bs i /\ gD s.bs i <= 255
theorem J9 {a b : Int} (ha : 0 <= a) (hb : 0 < b) : 0 <= a.tmod b /\ a.tmod b < b := by
 rw [Int.tmod_eq_emod_of_nonneg ha]
 exact ⟨Int.emod_nonneg _ (by omega), Int.emod_lt_of_pos _ hb⟩
theorem AAD {K : Int} {s : Stm} (h : StmB K s) (hK : K <= 1000000000000000) (hb : s.bs.length ≠ 0) : 0 <= HJ s /\ HJ s <= 1000000000010000 := by
 have hu := h.used
 have hm := h.mix
 have hi := J9 hu.1 (show 0 < (s.bs.length : Int) by omega)
 have hx := h.bs (s.used.tmod s.bs.length).toNat (by omega)
 have hq : 0 <= s.used.tdiv s.bs.length /\ s.used.tdiv s.bs.length <= 1000000000000000 := by
  rw [Int.tdiv_eq_ediv_of_nonneg hu.1]
  refine ⟨Int.ediv_nonneg hu.1 (by omega), ?_⟩
  have := Int.ediv_le_self (s.bs.length : Int) hu.1
  omega
 have e0 : wr (gD s.bs (s.used.tmod s.bs.length).toNat) = gD s.bs (s.used.tmod s.bs.length).toNat := JA (by omega) (by omega)
 have e1 : wr (11 * s.mix) = 11 * s.mix := JA (by omega) (by omega)
 have e2 : wr (s.used.tdiv s.bs.length) = s.used.tdiv s.bs.length := JA (by omega) (by omega)
 have e3 : wr (11 * s.mix + s.used.tdiv s.bs.length) = 11 * s.mix + s.used.tdiv s.bs.length := JA (by omega) (by omega)
 have e4 : wr (gD s.bs (s.used.tmod s.bs.length).toNat + (11 * s.mix + s.used.tdiv s.bs.length)) = gD s.bs (s.used.tmod s.bs.length).toNat + (11 * s.mix + s.used.tdiv s.bs.length) := JA (by omega) (by omega)
 unfold HJ
 rw [e0, e1, e2, e3, e4]
 split <;> omega
theorem X8 {K : Int} {s : Stm} (h : StmB K s) (hK : K <= 1000000000000000) (hb : s.bs.length ≠ 0) : 0 <= PV s /\ PV s < 251 := by
 have hm := h.mix
 have hn := AAD h hK hb
 have e1 : wr (5 * s.mix) = 5 * s.mix := JA (by omega) (by omega)
 have e2 : wr (5 * s.mix + HJ s) = 5 * s.mix + HJ s := JA (by omega) (by omega)
 have e3 : wr (5 * s.mix + HJ s + 1) = 5 * s.mix + HJ s + 1 := JA (by omega) (by omega)
 unfold PV
 rw [e1, e2, e3]
 exact J9 (by omega) (by omega)
theorem AMZ {s : Stm} {n : Int} (h : N4 s n = false) : 2 <= n /\ s.bs.length ≠ 0 := by
 unfold N4 at h
 by_cases x : n < 2
 ·rw [if_pos x] at h; cases h
 ·rw [if_neg x] at h; exact ⟨by omega, by simpa using h⟩
theorem StmB.mono {K M : Int} {s : Stm} (h : StmB K s) (hK : K <= M) : StmB M s := ⟨⟨h.used.1, by have := h.used; omega⟩, h.mix, h.bs⟩
theorem StmB.next {K : Int} {s : Stm} (h : StmB K s) (hK : K <= 1000000000000000) (n : Int) : StmB (K + 1) (BO s n) := by
 unfold BO
 cases hi : N4 s n with
 | true => exact h.mono (by omega)
 | false =>
  obtain ⟨_, hb⟩ := AMZ hi
  have hu := h.used
  have e : wr (s.used + 1) = s.used + 1 := JA (by omega) (by omega)
  refine ⟨?_, X8 h hK hb, h.bs⟩
  show 0 <= wr (s.used + 1) /\ wr (s.used + 1) <= K + 1
  rw [e]; omega
theorem EJ {K : Int} {s : Stm} (h : StmB K s) (hK : K <= 1000000000000000) (n : Int) : 0 <= BP s n /\ (1 <= n -> BP s n < n) := by
 unfold BP
 cases hi : N4 s n with
 | true => exact ⟨Int.le_refl _, λ h => by show (0 : Int) < n; omega⟩
 | false =>
  obtain ⟨hn, hb⟩ := AMZ hi
  have h1 := AAD h hK hb
  have h2 := X8 h hK hb
  have e1 : wr (256 * HJ s) = 256 * HJ s := JA (by omega) (by omega)
  have e2 : wr (256 * HJ s + PV s) = 256 * HJ s + PV s := JA (by omega) (by omega)
  rw [e1, e2]
  have := J9 (a := if 256 < n then 256 * HJ s + PV s else HJ s) (b := n) (by split <;> omega) (by omega)
  exact ⟨this.1, λ _ => this.2⟩
theorem Dl {K : Int} {s : Stm} (h : StmB K s) (hK : K <= 1000000000000000) {lo hi : Int} (h1 : -1000000000 <= lo) (h2 : lo <= hi) (h3 : hi <= 1000000000) : lo <= Fx s lo hi /\ Fx s lo hi <= hi := by
 have e1 : wr (hi - lo) = hi - lo := JA (by omega) (by omega)
 have e2 : wr (hi - lo + 1) = hi - lo + 1 := JA (by omega) (by omega)
 unfold Fx witN
 rw [e1, e2]
 have := EJ h hK (hi - lo + 1)
 have h4 := this.2 (by omega)
 have e3 : wr (lo + BP s (hi - lo + 1)) = lo + BP s (hi - lo + 1) := JA (by omega) (by omega)
 rw [e3]; omega
end Go.Bal
