/- Package chart: streams of numbers: New, Next, Within, Pick. -/
import Derived.Test.YtdbjalgfomknhaaChP
set_option linter.unusedVariables false
set_option linter.unusedSimpArgs false
namespace Go.Bal.DL
open Go.Sym Go
theorem m1 (n : Int) : CL (.v (.int .u8 n)) = n := rfl
end Go.Bal.DL
namespace Go.Bal
open Go Go.Sym Go.Proofs
structure Stm where
 bs : List Int
 used : Int
 mix : Int
 deriving Inhabited
end Go.Bal
namespace Go.Bal.DL
theorem m2 (s : Stm) : Stm.mk s.bs s.used s.mix = s := rfl
end Go.Bal.DL
namespace Go.Bal
open Go Go.Sym Go.Proofs
def eBys (l : List Int) : DVal := lst 1 l.length λ i => .v (.int .u8 (gD l i))
def stmO (s : Stm) : AObj := .box [.d (eBys s.bs), .int s.used, .int s.mix]
def stmH (s : Stm) : HCell := .live (stmO s)
def CBB (H : Heap) (id : Nat) : Option Stm := match H id with
 | .live (.box [.d (.list _ n g _), .d (.v (.int _ u)), .d (.v (.int _ m))]) => some ⟨AE n λ i => CL (g i), u, m⟩
 | _ => none
def C_New : Ctr := { α := List Int, xs := λ l => [.d (eBys l)], L := λ _ => [], val := λ _ => .bptr 0 0, keep := λ l => [(0, stmH ⟨l, 0, 0⟩)] }
def CTF : List AVal -> Heap -> Option (List Int × List (Nat × Nat) × List Nat)
 | [.d (.list _ n g _)], _ => some (AE n λ i => CL (g i), [], [])
 | _, _ => none
def CUQ (l : List Int) : Prop := BB Try.prog (ann 6 []) CNJ (AL CNJ) (C_New.xs l) (AG []) (C_New.val l) (C_New.keep l) [(0, 2032)] []
theorem CWM (l : List Int) : (CUQ l) = (l.length = l.length /\ (∀ (i : Nat), i < l.length -> gD l i = gD l i) /\ (0 : Int) = Int.ofNat (0 : Nat) /\ (0 : Int) = Int.ofNat (0 : Nat)) := by kernel_rfl
def JA (s : Stm) : Int := if s.bs.length <= s.used then wr (wr (gD s.bs (s.used.tmod s.bs.length).toNat) + wr (wr (11 * s.mix) + wr (s.used.tdiv s.bs.length))) else wr (gD s.bs (s.used.tmod s.bs.length).toNat)
def VG (s : Stm) : Int := (wr (wr (wr (5 * s.mix) + JA s) + 1)).tmod 251
def idle (s : Stm) (n : Int) : Bool := if n < 2 then true else decide (s.bs.length = 0)
def BD (s : Stm) (n : Int) : Stm := if idle s n then s else ⟨s.bs, wr (s.used + 1), VG s⟩
def AR (s : Stm) (n : Int) : Int := if idle s n then 0 else (if 256 < n then wr (wr (256 * JA s) + VG s) else JA s).tmod n
structure SN where
 s : Stm
 n : Int
def C_Next : Ctr := { α := SN, xs := λ a => [.bptr 100 0, .int a.n], L := λ a => [(100, stmO a.s)], val := λ a => .int (AR a.s a.n), keep := λ a => [(100, stmH (BD a.s a.n))], pre := λ a => [0 <= a.s.used] }
def CAD : List AVal -> Heap -> Option (SN × List (Nat × Nat) × List Nat)
 | [.bptr p _, .d (.v (.int _ n))], H => match CBB H p with
  | some s => some (⟨s, n⟩, [(100, p)], [])
  | none => none
 | _, _ => none
def CLC : Ann := { ann 92 [] with E := [100] }
def CHN (a : SN) : Prop := BB Try.prog CLC CCS (AL CCS) (C_Next.xs a) (AG (C_Next.L a)) (C_Next.val a) (C_Next.keep a) [] []
abbrev vH (a : SN) : Prop := (BD a.s a.n).bs.length = a.s.bs.length
abbrev yY (a : SN) : Prop := ∀ (i : Nat), i < (BD a.s a.n).bs.length -> gD (BD a.s a.n).bs i = gD a.s.bs i
abbrev J1 (a : SN) : Int := a.s.used.tmod (↑a.s.bs.length : Int)
abbrev BFX : Prop := Int.ofNat (251 : Nat) = Int.ofNat (0 : Nat) -> False
abbrev AZI (a : SN) : Bool := decide (a.n > (256 : Int))
abbrev Lo (a : SN) : Prop := a.n = (0 : Int) -> False
abbrev On (a : SN) : Int := IntKind.i64.wrap (gD a.s.bs (J1 a).toNat)
abbrev xT (a : SN) : Int := IntKind.i64.wrap (On a + IntKind.i64.wrap (IntKind.i64.wrap ((11 : Int) * a.s.mix) + IntKind.i64.wrap (a.s.used.tdiv (↑a.s.bs.length : Int))))
abbrev BDR (a : SN) : Int := IntKind.i64.wrap ((5 : Int) * a.s.mix)
abbrev AQU (a : SN) : Int := (IntKind.i64.wrap (IntKind.i64.wrap (BDR a + xT a) + (1 : Int))).tmod (251 : Int)
abbrev AEN (a : SN) : Prop := (BD a.s a.n).used = IntKind.i64.wrap (a.s.used + (1 : Int))
abbrev ACO (a : SN) : Prop := vH a /\ yY a /\ AEN a /\ (BD a.s a.n).mix = AQU a
abbrev AFP (a : SN) : Int := (IntKind.i64.wrap (IntKind.i64.wrap (BDR a + On a) + (1 : Int))).tmod (251 : Int)
abbrev Y1 (a : SN) : Prop := vH a /\ yY a /\ AEN a /\ (BD a.s a.n).mix = AFP a
theorem CPD (a : SN) : (CHN a) = (bif bif decide (a.n < (2 : Int)) then true else (↑a.s.bs.length : Int) == (0 : Int) then AR a.s a.n = (0 : Int) /\ vH a /\ yY a /\ (BD a.s a.n).used = a.s.used /\
 (BD a.s a.n).mix = a.s.mix else ((↑a.s.bs.length : Int) ≠ (0 : Int) /\ (0 : Int) <= J1 a /\ J1 a < (↑a.s.bs.length : Int)) /\ bif decide (a.s.used >= (↑a.s.bs.length : Int)) then ((↑a.s.bs.length : Int) = (0 :
 Int) -> False) /\ BFX /\ bif AZI a then Lo a /\ AR a.s a.n = (IntKind.i64.wrap (IntKind.i64.wrap ((256 : Int) * xT a) + AQU a)).tmod a.n /\ ACO a else Lo a /\ AR a.s a.n = (xT
 a).tmod a.n /\ ACO a else BFX /\ bif AZI a then Lo a /\ AR a.s a.n = (IntKind.i64.wrap (IntKind.i64.wrap ((256 : Int) * On a) + AFP a)).tmod a.n /\ Y1 a else Lo a /\ AR a.s
 a.n = (On a).tmod a.n /\ Y1 a) := by kernel_rfl
def witN (lo hi : Int) : Int := wr (wr (hi - lo) + 1)
def TF (s : Stm) (lo hi : Int) : Int := wr (lo + AR s (witN lo hi))
def KR (s : Stm) (lo hi : Int) : Stm := BD s (witN lo hi)
structure SW where
 s : Stm
 lo : Int
 hi : Int
def C_Within : Ctr := { α := SW, xs := λ a => [.bptr 100 0, .int a.lo, .int a.hi], L := λ a => [(100, stmO a.s)], val := λ a => .int (TF a.s a.lo a.hi), keep := λ a => [(100, stmH (KR a.s a.lo a.hi))], pre := λ a => [0 <= a.s.used] }
def BYD : List AVal -> Heap -> Option (SW × List (Nat × Nat) × List Nat)
 | [.bptr p _, .d (.v (.int _ n)), .d (.v (.int _ m))], H => match CBB H p with
  | some s => some (⟨s, n, m⟩, [(100, p)], [])
  | none => none
 | _, _ => none
def BYY : Ann := { ann 15 [(BUV, C_Next.spec CAD)] with E := [100] }
def BXD (a : SW) : Prop := BB Try.prog BYY AVA (AL AVA) (C_Within.xs a) (AG (C_Within.L a)) (C_Within.val a) (C_Within.keep a) [] []
theorem CHC (a : SW) : (BXD a) = ((IntKind.i64.wrap (IntKind.i64.wrap (a.hi - a.lo) + 1) = IntKind.i64.wrap (IntKind.i64.wrap (a.hi - a.lo) + 1) /\ (AE a.s.bs.length λ (i : Nat) => gD a.s.bs i).length =
 a.s.bs.length /\ (∀ (i : Nat), i < (AE a.s.bs.length λ (i : Nat) => gD a.s.bs i).length -> gD (AE a.s.bs.length λ (i : Nat) => gD a.s.bs i) i = gD a.s.bs i) /\ a.s.used = a.s.used /\ a.s.mix = a.s.mix /\ (a.s.used -
 0).NonNeg) /\ TF a.s a.lo a.hi = IntKind.i64.wrap (a.lo + AR (Stm.mk (AE a.s.bs.length λ (i : Nat) => gD a.s.bs i) a.s.used a.s.mix) (IntKind.i64.wrap (IntKind.i64.wrap (a.hi - a.lo) + 1))) /\ (KR a.s a.lo
 a.hi).bs.length = (BD (Stm.mk (AE a.s.bs.length λ (i : Nat) => gD a.s.bs i) a.s.used a.s.mix) (IntKind.i64.wrap (IntKind.i64.wrap (a.hi - a.lo) + 1))).bs.length /\ (∀ (i : Nat), i < (KR a.s a.lo a.hi).bs.length ->
 gD (KR a.s a.lo a.hi).bs i = gD (BD (Stm.mk (AE a.s.bs.length λ (i : Nat) => gD a.s.bs i) a.s.used a.s.mix) (IntKind.i64.wrap (IntKind.i64.wrap (a.hi - a.lo) + 1))).bs i) /\ (KR a.s a.lo a.hi).used = (BD
 (Stm.mk (AE a.s.bs.length λ (i : Nat) => gD a.s.bs i) a.s.used a.s.mix) (IntKind.i64.wrap (IntKind.i64.wrap (a.hi - a.lo) + 1))).used /\ (KR a.s a.lo a.hi).mix = (BD (Stm.mk (AE a.s.bs.length λ (i : Nat) => gD
 a.s.bs i) a.s.used a.s.mix) (IntKind.i64.wrap (IntKind.i64.wrap (a.hi - a.lo) + 1))).mix) := by kernel_rfl
def KH (v n : Int) : Int := if n < 1 then 0 else if v.tmod n < 0 then wr (v.tmod n + n) else v.tmod n
def CJL (v n : Int) : Prop := BB Try.prog (ann 16 []) CCB (AL CCB) [.int v, .int n] (AG []) (.int (KH v n)) [] [] []
theorem CQN (v : Int) (n : Int) : (CJL v n) = (bif decide (n < 1) then KH v n = 0 else (n = 0 -> False) /\ bif decide (v.tmod n < 0) then KH v n = IntKind.i64.wrap (v.tmod n + n) else KH v n = v.tmod n) :=
 by kernel_rfl
def CID : List AVal -> Option (AVal × List Prop)
 | [.d (.v (.int .i64 a)), .d (.v (.int .i64 b))] => some (.int (KH a b), [])
 | _ => none
def CKG := Ul CID
theorem CYT (l : List Int) : CUQ l := by
 rw [CWM]; exact ⟨rfl, λ _ _ => rfl, rfl, rfl⟩
theorem CXP : AM Try.prog CMJ (C_New.spec CTF) := LM C_New (λ _ => ann 6 []) [(0, 2032)] [] CXL (λ _ => by kernel_rfl) (λ _ => AJ) (λ l _ => CYT l) (λ _ => OA rfl rfl) _
theorem CXJ (s : Stm) (n : Int) : (bif decide (n < 2) then true else (s.bs.length : Int) == 0) = idle s n := by
 unfold idle
 by_cases h : n < 2
 ·simp [h]
 ·simp only [h, decide_false, cond_false, if_false]
  by_cases h2 : s.bs.length = 0
  ·simp [h2]
  ·have : ¬ (s.bs.length : Int) = 0 := by omega
   simp [h2]
theorem CQM {a b : Int} (ha : 0 <= a) (hb : 0 < b) : 0 <= a.tmod b /\ a.tmod b < b := by
 rw [Int.tmod_eq_emod_of_nonneg ha]
 exact ⟨Int.emod_nonneg _ (by omega), Int.emod_lt_of_pos _ hb⟩
theorem CXH (a : SN) (h : 0 <= a.s.used) : CHN a := by
 rw [CPD]; delta vH yY J1 BFX AZI Lo On xT BDR AQU AEN ACO AFP Y1; simp only [CC, eq_self, implies_true, forall_const, CXJ]
 refine ⟨λ hi => ?_, λ hi => ?_⟩
 ·have e1 : AR a.s a.n = 0 := by unfold AR; rw [hi]; rfl
  have e2 : BD a.s a.n = a.s := by unfold BD; rw [hi]; rfl
  rw [e1, e2]; exact ⟨rfl, rfl, λ _ _ => rfl, rfl, rfl⟩
 have hi2 : ¬ a.n < 2 /\ ¬ a.s.bs.length = 0 := by
  unfold idle at hi
  by_cases x : a.n < 2
  ·rw [if_pos x] at hi; cases hi
  ·rw [if_neg x] at hi; exact ⟨x, by simpa using hi⟩
 obtain ⟨i1, i2⟩ := hi2
 have e1 : AR a.s a.n = (if 256 < a.n then wr (wr (256 * JA a.s) + VG a.s) else JA a.s).tmod a.n := by unfold AR; rw [hi]; rfl
 have e2 : BD a.s a.n = ⟨a.s.bs, wr (a.s.used + 1), VG a.s⟩ := by unfold BD; rw [hi]; rfl
 have hm := CQM h (show 0 < (a.s.bs.length : Int) by omega)
 rw [e1, e2]
 refine ⟨⟨by omega, hm⟩, λ hu => ⟨by omega, by decide, λ hn => ⟨by omega, ?_⟩, λ hn => ⟨by omega, ?_⟩⟩, λ hu => ⟨by decide, λ hn => ⟨by omega, ?_⟩, λ hn => ⟨by omega, ?_⟩⟩⟩
 ·rw [if_pos (by omega)]; unfold VG JA; rw [if_pos (by omega)]; exact ⟨rfl, rfl, λ _ _ => rfl, rfl, rfl⟩
 ·rw [if_neg (by omega)]; unfold VG JA; rw [if_pos (by omega)]; exact ⟨rfl, rfl, λ _ _ => rfl, rfl, rfl⟩
 ·rw [if_pos (by omega)]; unfold VG JA; rw [if_neg (by omega)]; exact ⟨rfl, rfl, λ _ _ => rfl, rfl, rfl⟩
 ·rw [if_neg (by omega)]; unfold VG JA; rw [if_neg (by omega)]; exact ⟨rfl, rfl, λ _ _ => rfl, rfl, rfl⟩
theorem CED : AM Try.prog BUV (C_Next.spec CAD) := LM C_Next (λ _ => CLC) [] [] CPF (λ _ => by kernel_rfl) (λ _ => AJ) (λ a h => CXH a h) (λ _ => OA rfl rfl) _
theorem CMG (a : SW) (h : 0 <= a.s.used) : BXD a := by
 rw [CHC]; simp only [CC, eq_self, implies_true, forall_const]
 exact ⟨h, rfl, rfl, λ _ _ => rfl, rfl, rfl⟩
theorem CHF : AM Try.prog AYY (C_Within.spec BYD) := LM C_Within (λ _ => BYY) [] [] CGS (λ _ => by kernel_rfl) (λ _ => AC CED AJ) (λ a h => CMG a h) (λ _ => OA rfl rfl) _
theorem CWW (a b : Int) : CJL a b := by
 rw [CQN]; simp only [CC, eq_self, implies_true, forall_const]
 unfold KH
 refine ⟨λ h => if_pos h, λ h => ⟨by omega, λ h2 => ?_, λ h2 => ?_⟩⟩
 ·rw [if_neg h, if_pos h2]; rfl
 ·rw [if_neg h, if_neg h2]
theorem CQT : AM Try.prog CBE CKG := Jg λ xs v p h _ => by
 unfold CID at h; split at h
 ·cases h; exact UV (A := ann 16 []) (ren := []) (fz := []) CPW (by kernel_rfl) AJ (CWW _ _)
 ·cases h
structure StmB (K : Int) (s : Stm) : Prop where
 used : 0 <= s.used /\ s.used <= K
 mix : 0 <= s.mix /\ s.mix < 251
 bs : ∀ i, i < s.bs.length -> 0 <= gD s.bs i /\ gD s.bs i <= 255
theorem BSA {a b : Int} (ha : 0 <= a) (hb : 0 < b) : 0 <= a.tmod b /\ a.tmod b < b := by
 rw [Int.tmod_eq_emod_of_nonneg ha]
 exact ⟨Int.emod_nonneg _ (by omega), Int.emod_lt_of_pos _ hb⟩
theorem BXN {K : Int} {s : Stm} (h : StmB K s) (hK : K <= 1000000000000000) (hb : s.bs.length ≠ 0) : 0 <= JA s /\ JA s <= 1000000000010000 := by
 have hu := h.used
 have hm := h.mix
 have hi := BSA hu.1 (show 0 < (s.bs.length : Int) by omega)
 have hx := h.bs (s.used.tmod s.bs.length).toNat (by omega)
 have hq : 0 <= s.used.tdiv s.bs.length /\ s.used.tdiv s.bs.length <= 1000000000000000 := by
  rw [Int.tdiv_eq_ediv_of_nonneg hu.1]
  refine ⟨Int.ediv_nonneg hu.1 (by omega), ?_⟩
  have := Int.ediv_le_self (s.bs.length : Int) hu.1
  omega
 have e0 : wr (gD s.bs (s.used.tmod s.bs.length).toNat) = gD s.bs (s.used.tmod s.bs.length).toNat := FC (by omega) (by omega)
 have e1 : wr (11 * s.mix) = 11 * s.mix := FC (by omega) (by omega)
 have e2 : wr (s.used.tdiv s.bs.length) = s.used.tdiv s.bs.length := FC (by omega) (by omega)
 have e3 : wr (11 * s.mix + s.used.tdiv s.bs.length) = 11 * s.mix + s.used.tdiv s.bs.length := FC (by omega) (by omega)
 have e4 : wr (gD s.bs (s.used.tmod s.bs.length).toNat + (11 * s.mix + s.used.tdiv s.bs.length)) = gD s.bs (s.used.tmod s.bs.length).toNat + (11 * s.mix + s.used.tdiv s.bs.length) := FC (by omega) (by omega)
 unfold JA
 rw [e0, e1, e2, e3, e4]
 split <;> omega
theorem BWX {K : Int} {s : Stm} (h : StmB K s) (hK : K <= 1000000000000000) (hb : s.bs.length ≠ 0) : 0 <= VG s /\ VG s < 251 := by
 have hm := h.mix
 have hn := BXN h hK hb
 have e1 : wr (5 * s.mix) = 5 * s.mix := FC (by omega) (by omega)
 have e2 : wr (5 * s.mix + JA s) = 5 * s.mix + JA s := FC (by omega) (by omega)
 have e3 : wr (5 * s.mix + JA s + 1) = 5 * s.mix + JA s + 1 := FC (by omega) (by omega)
 unfold VG
 rw [e1, e2, e3]
 exact BSA (by omega) (by omega)
theorem CJB {s : Stm} {n : Int} (h : idle s n = false) : 2 <= n /\ s.bs.length ≠ 0 := by
 unfold idle at h
 by_cases x : n < 2
 ·rw [if_pos x] at h; cases h
 ·rw [if_neg x] at h; exact ⟨by omega, by simpa using h⟩
theorem StmB.mono {K M : Int} {s : Stm} (h : StmB K s) (hK : K <= M) : StmB M s := ⟨⟨h.used.1, by have := h.used; omega⟩, h.mix, h.bs⟩
theorem StmB.next {K : Int} {s : Stm} (h : StmB K s) (hK : K <= 1000000000000000) (n : Int) : StmB (K + 1) (BD s n) := by
 unfold BD
 cases hi : idle s n with
 | true => exact h.mono (by omega)
 | false =>
  obtain ⟨_, hb⟩ := CJB hi
  have hu := h.used
  have e : wr (s.used + 1) = s.used + 1 := FC (by omega) (by omega)
  refine ⟨?_, BWX h hK hb, h.bs⟩
  show 0 <= wr (s.used + 1) /\ wr (s.used + 1) <= K + 1
  rw [e]; omega
theorem GD {K : Int} {s : Stm} (h : StmB K s) (hK : K <= 1000000000000000) (n : Int) : 0 <= AR s n /\ (1 <= n -> AR s n < n) := by
 unfold AR
 cases hi : idle s n with
 | true => exact ⟨Int.le_refl _, λ h => by show (0 : Int) < n; omega⟩
 | false =>
  obtain ⟨hn, hb⟩ := CJB hi
  have h1 := BXN h hK hb
  have h2 := BWX h hK hb
  have e1 : wr (256 * JA s) = 256 * JA s := FC (by omega) (by omega)
  have e2 : wr (256 * JA s + VG s) = 256 * JA s + VG s := FC (by omega) (by omega)
  rw [e1, e2]
  have := BSA (a := if 256 < n then 256 * JA s + VG s else JA s) (b := n) (by split <;> omega) (by omega)
  exact ⟨this.1, λ _ => this.2⟩
theorem aL {K : Int} {s : Stm} (h : StmB K s) (hK : K <= 1000000000000000) {lo hi : Int} (h1 : -1000000000 <= lo) (h2 : lo <= hi) (h3 : hi <= 1000000000) : lo <= TF s lo hi /\ TF s lo hi <= hi := by
 have e1 : wr (hi - lo) = hi - lo := FC (by omega) (by omega)
 have e2 : wr (hi - lo + 1) = hi - lo + 1 := FC (by omega) (by omega)
 unfold TF witN
 rw [e1, e2]
 have := GD h hK (hi - lo + 1)
 have h4 := this.2 (by omega)
 have e3 : wr (lo + AR s (hi - lo + 1)) = lo + AR s (hi - lo + 1) := FC (by omega) (by omega)
 rw [e3]; omega
end Go.Bal
