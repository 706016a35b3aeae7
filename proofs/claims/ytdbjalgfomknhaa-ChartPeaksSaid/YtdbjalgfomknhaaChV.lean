/- Package chart: streams of numbers: New, Next, Within, Pick. -/
import Derived.Test.YtdbjalgfomknhaaChP
set_option linter.unusedVariables false
set_option linter.unusedSimpArgs false
namespace Go.Bal.DL
open Go.Sym Go
theorem m1 (n : Int) : dInt (.v (.int .u8 n)) = n := rfl
end Go.Bal.DL
namespace Go.Bal
open Go Go.Sym Go.Proofs
structure Stm where
 bs : List Int
 used : Int
 mix : Int
 deriving Inhabited
end Go.Bal
namespace Go.Bal.DL
theorem m2 (s : Stm) : Stm.mk s.bs s.used s.mix = s := rfl
end Go.Bal.DL
namespace Go.Bal
open Go Go.Sym Go.Proofs
def eBys (l : List Int) : DVal := lst 1 l.length λ i => .v (.int .u8 (gD l i))
def stmO (s : Stm) : AObj := .box [.d (eBys s.bs), .int s.used, .int s.mix]
def stmH (s : Stm) : HCell := .live (stmO s)
def decStm (H : Heap) (id : Nat) : Option Stm := match H id with
 | .live (.box [.d (.list _ n g _), .d (.v (.int _ u)), .d (.v (.int _ m))]) => some ⟨rng n λ i => dInt (g i), u, m⟩
 | _ => none
def C_New : Ctr := { α := List Int, xs := λ l => [.d (eBys l)], L := λ _ => [], val := λ _ => .bptr 0 0, keep := λ l => [(0, stmH ⟨l, 0, 0⟩)] }
def d_New : List AVal -> Heap -> Option (List Int × List (Nat × Nat) × List Nat)
 | [.d (.list _ n g _)], _ => some (rng n λ i => dInt (g i), [], [])
 | _, _ => none
def V_New (l : List Int) : Prop := fnVC Try.prog (ann 6 []) F_New (bodyOf F_New) (C_New.xs l) (heapOf []) (C_New.val l) (C_New.keep l) [(0, 2032)] []
theorem vc_New (l : List Int) : (V_New l) = (l.length = l.length /\ (∀ (i : Nat), i < l.length -> gD l i = gD l i) /\ (0 : Int) = Int.ofNat (0 : Nat) /\ (0 : Int) = Int.ofNat (0 : Nat)) := by kernel_rfl
def nextB (s : Stm) : Int := if s.bs.length <= s.used then wr (wr (gD s.bs (s.used.tmod s.bs.length).toNat) + wr (wr (11 * s.mix) + wr (s.used.tdiv s.bs.length))) else wr (gD s.bs (s.used.tmod s.bs.length).toNat)
def nextM (s : Stm) : Int := (wr (wr (wr (5 * s.mix) + nextB s) + 1)).tmod 251
def idle (s : Stm) (n : Int) : Bool := if n < 2 then true else decide (s.bs.length = 0)
def nextS (s : Stm) (n : Int) : Stm := if idle s n then s else ⟨s.bs, wr (s.used + 1), nextM s⟩
def nextV (s : Stm) (n : Int) : Int := if idle s n then 0 else (if 256 < n then wr (wr (256 * nextB s) + nextM s) else nextB s).tmod n
structure SN where
 s : Stm
 n : Int
def C_Next : Ctr := { α := SN, xs := λ a => [.bptr 100 0, .int a.n], L := λ a => [(100, stmO a.s)], val := λ a => .int (nextV a.s a.n), keep := λ a => [(100, stmH (nextS a.s a.n))], pre := λ a => [0 <= a.s.used] }
def d_Next : List AVal -> Heap -> Option (SN × List (Nat × Nat) × List Nat)
 | [.bptr p _, .d (.v (.int _ n))], H => match decStm H p with
  | some s => some (⟨s, n⟩, [(100, p)], [])
  | none => none
 | _, _ => none
def A_Next : Ann := { ann 92 [] with E := [100] }
def V_Next (a : SN) : Prop := fnVC Try.prog A_Next F_Next (bodyOf F_Next) (C_Next.xs a) (heapOf (C_Next.L a)) (C_Next.val a) (C_Next.keep a) [] []
abbrev z_Next_0 (a : SN) : Prop := (nextS a.s a.n).bs.length = a.s.bs.length
abbrev z_Next_1 (a : SN) : Prop := ∀ (i : Nat), i < (nextS a.s a.n).bs.length -> gD (nextS a.s a.n).bs i = gD a.s.bs i
abbrev z_Next_2 (a : SN) : Int := a.s.used.tmod (↑a.s.bs.length : Int)
abbrev z_Next_3 : Prop := Int.ofNat (251 : Nat) = Int.ofNat (0 : Nat) -> False
abbrev z_Next_4 (a : SN) : Bool := decide (a.n > (256 : Int))
abbrev z_Next_5 (a : SN) : Prop := a.n = (0 : Int) -> False
abbrev z_Next_6 (a : SN) : Int := IntKind.i64.wrap (gD a.s.bs (z_Next_2 a).toNat)
abbrev z_Next_7 (a : SN) : Int := IntKind.i64.wrap (z_Next_6 a + IntKind.i64.wrap (IntKind.i64.wrap ((11 : Int) * a.s.mix) + IntKind.i64.wrap (a.s.used.tdiv (↑a.s.bs.length : Int))))
abbrev z_Next_8 (a : SN) : Int := IntKind.i64.wrap ((5 : Int) * a.s.mix)
abbrev z_Next_9 (a : SN) : Int := (IntKind.i64.wrap (IntKind.i64.wrap (z_Next_8 a + z_Next_7 a) + (1 : Int))).tmod (251 : Int)
abbrev z_Next_10 (a : SN) : Prop := (nextS a.s a.n).used = IntKind.i64.wrap (a.s.used + (1 : Int))
abbrev z_Next_11 (a : SN) : Prop := z_Next_0 a /\ z_Next_1 a /\ z_Next_10 a /\ (nextS a.s a.n).mix = z_Next_9 a
abbrev z_Next_12 (a : SN) : Int := (IntKind.i64.wrap (IntKind.i64.wrap (z_Next_8 a + z_Next_6 a) + (1 : Int))).tmod (251 : Int)
abbrev z_Next_13 (a : SN) : Prop := z_Next_0 a /\ z_Next_1 a /\ z_Next_10 a /\ (nextS a.s a.n).mix = z_Next_12 a
theorem vc_Next (a : SN) : (V_Next a) = (bif bif decide (a.n < (2 : Int)) then true else (↑a.s.bs.length : Int) == (0 : Int) then nextV a.s a.n = (0 : Int) /\ z_Next_0 a /\ z_Next_1 a /\ (nextS a.s a.n).used = a.s.used /\
 (nextS a.s a.n).mix = a.s.mix else ((↑a.s.bs.length : Int) ≠ (0 : Int) /\ (0 : Int) <= z_Next_2 a /\ z_Next_2 a < (↑a.s.bs.length : Int)) /\ bif decide (a.s.used >= (↑a.s.bs.length : Int)) then ((↑a.s.bs.length : Int) = (0 :
 Int) -> False) /\ z_Next_3 /\ bif z_Next_4 a then z_Next_5 a /\ nextV a.s a.n = (IntKind.i64.wrap (IntKind.i64.wrap ((256 : Int) * z_Next_7 a) + z_Next_9 a)).tmod a.n /\ z_Next_11 a else z_Next_5 a /\ nextV a.s a.n = (z_Next_7
 a).tmod a.n /\ z_Next_11 a else z_Next_3 /\ bif z_Next_4 a then z_Next_5 a /\ nextV a.s a.n = (IntKind.i64.wrap (IntKind.i64.wrap ((256 : Int) * z_Next_6 a) + z_Next_12 a)).tmod a.n /\ z_Next_13 a else z_Next_5 a /\ nextV a.s
 a.n = (z_Next_6 a).tmod a.n /\ z_Next_13 a) := by kernel_rfl
def witN (lo hi : Int) : Int := wr (wr (hi - lo) + 1)
def witV (s : Stm) (lo hi : Int) : Int := wr (lo + nextV s (witN lo hi))
def witS (s : Stm) (lo hi : Int) : Stm := nextS s (witN lo hi)
structure SW where
 s : Stm
 lo : Int
 hi : Int
def C_Within : Ctr := { α := SW, xs := λ a => [.bptr 100 0, .int a.lo, .int a.hi], L := λ a => [(100, stmO a.s)], val := λ a => .int (witV a.s a.lo a.hi), keep := λ a => [(100, stmH (witS a.s a.lo a.hi))], pre := λ a => [0 <= a.s.used] }
def d_Within : List AVal -> Heap -> Option (SW × List (Nat × Nat) × List Nat)
 | [.bptr p _, .d (.v (.int _ n)), .d (.v (.int _ m))], H => match decStm H p with
  | some s => some (⟨s, n, m⟩, [(100, p)], [])
  | none => none
 | _, _ => none
def A_Within : Ann := { ann 15 [(n_Next, C_Next.spec d_Next)] with E := [100] }
def V_Within (a : SW) : Prop := fnVC Try.prog A_Within F_Within (bodyOf F_Within) (C_Within.xs a) (heapOf (C_Within.L a)) (C_Within.val a) (C_Within.keep a) [] []
theorem vc_Within (a : SW) : (V_Within a) = ((IntKind.i64.wrap (IntKind.i64.wrap (a.hi - a.lo) + 1) = IntKind.i64.wrap (IntKind.i64.wrap (a.hi - a.lo) + 1) /\ (rng a.s.bs.length λ (i : Nat) => gD a.s.bs i).length =
 a.s.bs.length /\ (∀ (i : Nat), i < (rng a.s.bs.length λ (i : Nat) => gD a.s.bs i).length -> gD (rng a.s.bs.length λ (i : Nat) => gD a.s.bs i) i = gD a.s.bs i) /\ a.s.used = a.s.used /\ a.s.mix = a.s.mix /\ (a.s.used -
 0).NonNeg) /\ witV a.s a.lo a.hi = IntKind.i64.wrap (a.lo + nextV (Stm.mk (rng a.s.bs.length λ (i : Nat) => gD a.s.bs i) a.s.used a.s.mix) (IntKind.i64.wrap (IntKind.i64.wrap (a.hi - a.lo) + 1))) /\ (witS a.s a.lo
 a.hi).bs.length = (nextS (Stm.mk (rng a.s.bs.length λ (i : Nat) => gD a.s.bs i) a.s.used a.s.mix) (IntKind.i64.wrap (IntKind.i64.wrap (a.hi - a.lo) + 1))).bs.length /\ (∀ (i : Nat), i < (witS a.s a.lo a.hi).bs.length ->
 gD (witS a.s a.lo a.hi).bs i = gD (nextS (Stm.mk (rng a.s.bs.length λ (i : Nat) => gD a.s.bs i) a.s.used a.s.mix) (IntKind.i64.wrap (IntKind.i64.wrap (a.hi - a.lo) + 1))).bs i) /\ (witS a.s a.lo a.hi).used = (nextS
 (Stm.mk (rng a.s.bs.length λ (i : Nat) => gD a.s.bs i) a.s.used a.s.mix) (IntKind.i64.wrap (IntKind.i64.wrap (a.hi - a.lo) + 1))).used /\ (witS a.s a.lo a.hi).mix = (nextS (Stm.mk (rng a.s.bs.length λ (i : Nat) => gD
 a.s.bs i) a.s.used a.s.mix) (IntKind.i64.wrap (IntKind.i64.wrap (a.hi - a.lo) + 1))).mix) := by kernel_rfl
def pickV (v n : Int) : Int := if n < 1 then 0 else if v.tmod n < 0 then wr (v.tmod n + n) else v.tmod n
def V_Pick (v n : Int) : Prop := fnVC Try.prog (ann 16 []) F_Pick (bodyOf F_Pick) [.int v, .int n] (heapOf []) (.int (pickV v n)) [] [] []
theorem vc_Pick (v : Int) (n : Int) : (V_Pick v n) = (bif decide (n < 1) then pickV v n = 0 else (n = 0 -> False) /\ bif decide (v.tmod n < 0) then pickV v n = IntKind.i64.wrap (v.tmod n + n) else pickV v n = v.tmod n) :=
 by kernel_rfl
def f_Pick : List AVal -> Option (AVal × List Prop)
 | [.d (.v (.int .i64 a)), .d (.v (.int .i64 b))] => some (.int (pickV a b), [])
 | _ => none
def s_Pick := pureSpec f_Pick
theorem p_New (l : List Int) : V_New l := by
 rw [vc_New]; exact ⟨rfl, λ _ _ => rfl, rfl, rfl⟩
theorem ok_New : SpecOk Try.prog n_New (C_New.spec d_New) := okC C_New (λ _ => ann 6 []) [(0, 2032)] [] fn_New (λ _ => by kernel_rfl) (λ _ => gok_nil) (λ l _ => p_New l) (λ _ => noI rfl rfl) _
theorem idle_b (s : Stm) (n : Int) : (bif decide (n < 2) then true else (s.bs.length : Int) == 0) = idle s n := by
 unfold idle
 by_cases h : n < 2
 ·simp [h]
 ·simp only [h, decide_false, cond_false, if_false]
  by_cases h2 : s.bs.length = 0
  ·simp [h2]
  ·have : ¬ (s.bs.length : Int) = 0 := by omega
   simp [h2]
theorem tmod_in {a b : Int} (ha : 0 <= a) (hb : 0 < b) : 0 <= a.tmod b /\ a.tmod b < b := by
 rw [Int.tmod_eq_emod_of_nonneg ha]
 exact ⟨Int.emod_nonneg _ (by omega), Int.emod_lt_of_pos _ hb⟩
theorem p_Next (a : SN) (h : 0 <= a.s.used) : V_Next a := by
 rw [vc_Next]; delta z_Next_0 z_Next_1 z_Next_2 z_Next_3 z_Next_4 z_Next_5 z_Next_6 z_Next_7 z_Next_8 z_Next_9 z_Next_10 z_Next_11 z_Next_12 z_Next_13; simp only [condP, eq_self, implies_true, and_self, true_and, and_true, true_implies, forall_const, decide_eq_true_eq, decide_eq_false_iff_not, Int.toNat_natCast, dSpan_eSpan, dInt_eInt, dMk_e, dNt_e, dPr_e, Nat.zero_add, Int.zero_sub, Nat.le_eq, Nat.succ_eq_add_one, Nat.add_one_le_iff, Bool.not_eq_true', Bool.not_eq_false', rng_length, dSpan_mk, rng_getD, idle_b]
 refine ⟨λ hi => ?_, λ hi => ?_⟩
 ·have e1 : nextV a.s a.n = 0 := by unfold nextV; rw [hi]; rfl
  have e2 : nextS a.s a.n = a.s := by unfold nextS; rw [hi]; rfl
  rw [e1, e2]; exact ⟨rfl, rfl, λ _ _ => rfl, rfl, rfl⟩
 have hi2 : ¬ a.n < 2 /\ ¬ a.s.bs.length = 0 := by
  unfold idle at hi
  by_cases x : a.n < 2
  ·rw [if_pos x] at hi; cases hi
  ·rw [if_neg x] at hi; exact ⟨x, by simpa using hi⟩
 obtain ⟨i1, i2⟩ := hi2
 have e1 : nextV a.s a.n = (if 256 < a.n then wr (wr (256 * nextB a.s) + nextM a.s) else nextB a.s).tmod a.n := by unfold nextV; rw [hi]; rfl
 have e2 : nextS a.s a.n = ⟨a.s.bs, wr (a.s.used + 1), nextM a.s⟩ := by unfold nextS; rw [hi]; rfl
 have hm := tmod_in h (show 0 < (a.s.bs.length : Int) by omega)
 rw [e1, e2]
 refine ⟨⟨by omega, hm⟩, λ hu => ⟨by omega, by decide, λ hn => ⟨by omega, ?_⟩, λ hn => ⟨by omega, ?_⟩⟩, λ hu => ⟨by decide, λ hn => ⟨by omega, ?_⟩, λ hn => ⟨by omega, ?_⟩⟩⟩
 ·rw [if_pos (by omega)]; unfold nextM nextB; rw [if_pos (by omega)]; exact ⟨rfl, rfl, λ _ _ => rfl, rfl, rfl⟩
 ·rw [if_neg (by omega)]; unfold nextM nextB; rw [if_pos (by omega)]; exact ⟨rfl, rfl, λ _ _ => rfl, rfl, rfl⟩
 ·rw [if_pos (by omega)]; unfold nextM nextB; rw [if_neg (by omega)]; exact ⟨rfl, rfl, λ _ _ => rfl, rfl, rfl⟩
 ·rw [if_neg (by omega)]; unfold nextM nextB; rw [if_neg (by omega)]; exact ⟨rfl, rfl, λ _ _ => rfl, rfl, rfl⟩
theorem ok_Next : SpecOk Try.prog n_Next (C_Next.spec d_Next) := okC C_Next (λ _ => A_Next) [] [] fn_Next (λ _ => by kernel_rfl) (λ _ => gok_nil) (λ a h => p_Next a h) (λ _ => noI rfl rfl) _
theorem p_Within (a : SW) (h : 0 <= a.s.used) : V_Within a := by
 rw [vc_Within]; simp only [condP, eq_self, implies_true, and_self, true_and, and_true, true_implies, forall_const, decide_eq_true_eq, decide_eq_false_iff_not, Int.toNat_natCast, dSpan_eSpan, dInt_eInt, dMk_e, dNt_e, dPr_e, Nat.zero_add, Int.zero_sub, Nat.le_eq, Nat.succ_eq_add_one, Nat.add_one_le_iff, Bool.not_eq_true', Bool.not_eq_false', rng_length, dSpan_mk, rng_getD]
 exact ⟨h, rfl, rfl, λ _ _ => rfl, rfl, rfl⟩
theorem ok_Within : SpecOk Try.prog n_Within (C_Within.spec d_Within) := okC C_Within (λ _ => A_Within) [] [] fn_Within (λ _ => by kernel_rfl) (λ _ => gok_cons ok_Next gok_nil) (λ a h => p_Within a h) (λ _ => noI rfl rfl) _
theorem p_Pick (a b : Int) : V_Pick a b := by
 rw [vc_Pick]; simp only [condP, eq_self, implies_true, and_self, true_and, and_true, true_implies, forall_const, decide_eq_true_eq, decide_eq_false_iff_not, Int.toNat_natCast, dSpan_eSpan, dInt_eInt, dMk_e, dNt_e, dPr_e, Nat.zero_add, Int.zero_sub, Nat.le_eq, Nat.succ_eq_add_one, Nat.add_one_le_iff, Bool.not_eq_true', Bool.not_eq_false', rng_length, dSpan_mk, rng_getD]
 unfold pickV
 refine ⟨λ h => if_pos h, λ h => ⟨by omega, λ h2 => ?_, λ h2 => ?_⟩⟩
 ·rw [if_neg h, if_pos h2]; rfl
 ·rw [if_neg h, if_neg h2]
theorem ok_Pick : SpecOk Try.prog n_Pick s_Pick := pureSpec_ok λ xs v p h _ => by
 unfold f_Pick at h; split at h
 ·cases h; exact fnt (A := ann 16 []) (ren := []) (fz := []) fn_Pick (by kernel_rfl) gok_nil (p_Pick _ _)
 ·cases h
structure StmB (K : Int) (s : Stm) : Prop where
 used : 0 <= s.used /\ s.used <= K
 mix : 0 <= s.mix /\ s.mix < 251
 bs : ∀ i, i < s.bs.length -> 0 <= gD s.bs i /\ gD s.bs i <= 255
theorem tmod_lt {a b : Int} (ha : 0 <= a) (hb : 0 < b) : 0 <= a.tmod b /\ a.tmod b < b := by
 rw [Int.tmod_eq_emod_of_nonneg ha]
 exact ⟨Int.emod_nonneg _ (by omega), Int.emod_lt_of_pos _ hb⟩
theorem nextB_in {K : Int} {s : Stm} (h : StmB K s) (hK : K <= 1000000000000000) (hb : s.bs.length ≠ 0) : 0 <= nextB s /\ nextB s <= 1000000000010000 := by
 have hu := h.used
 have hm := h.mix
 have hi := tmod_lt hu.1 (show 0 < (s.bs.length : Int) by omega)
 have hx := h.bs (s.used.tmod s.bs.length).toNat (by omega)
 have hq : 0 <= s.used.tdiv s.bs.length /\ s.used.tdiv s.bs.length <= 1000000000000000 := by
  rw [Int.tdiv_eq_ediv_of_nonneg hu.1]
  refine ⟨Int.ediv_nonneg hu.1 (by omega), ?_⟩
  have := Int.ediv_le_self (s.bs.length : Int) hu.1
  omega
 have e0 : wr (gD s.bs (s.used.tmod s.bs.length).toNat) = gD s.bs (s.used.tmod s.bs.length).toNat := w64 (by omega) (by omega)
 have e1 : wr (11 * s.mix) = 11 * s.mix := w64 (by omega) (by omega)
 have e2 : wr (s.used.tdiv s.bs.length) = s.used.tdiv s.bs.length := w64 (by omega) (by omega)
 have e3 : wr (11 * s.mix + s.used.tdiv s.bs.length) = 11 * s.mix + s.used.tdiv s.bs.length := w64 (by omega) (by omega)
 have e4 : wr (gD s.bs (s.used.tmod s.bs.length).toNat + (11 * s.mix + s.used.tdiv s.bs.length)) = gD s.bs (s.used.tmod s.bs.length).toNat + (11 * s.mix + s.used.tdiv s.bs.length) := w64 (by omega) (by omega)
 unfold nextB
 rw [e0, e1, e2, e3, e4]
 split <;> omega
theorem nextM_in {K : Int} {s : Stm} (h : StmB K s) (hK : K <= 1000000000000000) (hb : s.bs.length ≠ 0) : 0 <= nextM s /\ nextM s < 251 := by
 have hm := h.mix
 have hn := nextB_in h hK hb
 have e1 : wr (5 * s.mix) = 5 * s.mix := w64 (by omega) (by omega)
 have e2 : wr (5 * s.mix + nextB s) = 5 * s.mix + nextB s := w64 (by omega) (by omega)
 have e3 : wr (5 * s.mix + nextB s + 1) = 5 * s.mix + nextB s + 1 := w64 (by omega) (by omega)
 unfold nextM
 rw [e1, e2, e3]
 exact tmod_lt (by omega) (by omega)
theorem idle_f {s : Stm} {n : Int} (h : idle s n = false) : 2 <= n /\ s.bs.length ≠ 0 := by
 unfold idle at h
 by_cases x : n < 2
 ·rw [if_pos x] at h; cases h
 ·rw [if_neg x] at h; exact ⟨by omega, by simpa using h⟩
theorem StmB.mono {K M : Int} {s : Stm} (h : StmB K s) (hK : K <= M) : StmB M s := ⟨⟨h.used.1, by have := h.used; omega⟩, h.mix, h.bs⟩
theorem StmB.next {K : Int} {s : Stm} (h : StmB K s) (hK : K <= 1000000000000000) (n : Int) : StmB (K + 1) (nextS s n) := by
 unfold nextS
 cases hi : idle s n with
 | true => exact h.mono (by omega)
 | false =>
  obtain ⟨_, hb⟩ := idle_f hi
  have hu := h.used
  have e : wr (s.used + 1) = s.used + 1 := w64 (by omega) (by omega)
  refine ⟨?_, nextM_in h hK hb, h.bs⟩
  show 0 <= wr (s.used + 1) /\ wr (s.used + 1) <= K + 1
  rw [e]; omega
theorem nextV_in {K : Int} {s : Stm} (h : StmB K s) (hK : K <= 1000000000000000) (n : Int) : 0 <= nextV s n /\ (1 <= n -> nextV s n < n) := by
 unfold nextV
 cases hi : idle s n with
 | true => exact ⟨Int.le_refl _, λ h => by show (0 : Int) < n; omega⟩
 | false =>
  obtain ⟨hn, hb⟩ := idle_f hi
  have h1 := nextB_in h hK hb
  have h2 := nextM_in h hK hb
  have e1 : wr (256 * nextB s) = 256 * nextB s := w64 (by omega) (by omega)
  have e2 : wr (256 * nextB s + nextM s) = 256 * nextB s + nextM s := w64 (by omega) (by omega)
  rw [e1, e2]
  have := tmod_lt (a := if 256 < n then 256 * nextB s + nextM s else nextB s) (b := n) (by split <;> omega) (by omega)
  exact ⟨this.1, λ _ => this.2⟩
theorem witV_in {K : Int} {s : Stm} (h : StmB K s) (hK : K <= 1000000000000000) {lo hi : Int} (h1 : -1000000000 <= lo) (h2 : lo <= hi) (h3 : hi <= 1000000000) : lo <= witV s lo hi /\ witV s lo hi <= hi := by
 have e1 : wr (hi - lo) = hi - lo := w64 (by omega) (by omega)
 have e2 : wr (hi - lo + 1) = hi - lo + 1 := w64 (by omega) (by omega)
 unfold witV witN
 rw [e1, e2]
 have := nextV_in h hK (hi - lo + 1)
 have h4 := this.2 (by omega)
 have e3 : wr (lo + nextV s (hi - lo + 1)) = lo + nextV s (hi - lo + 1) := w64 (by omega) (by omega)
 rw [e3]; omega
end Go.Bal
