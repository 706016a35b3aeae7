/- Streams of numbers: New, Next, Within, Pick. -/
import Derived.Test.YtonddbmhljelgaaBalW
set_option linter.unusedVariables false
set_option linter.unusedSimpArgs false
namespace Go.Bal.DL
open Go.Sym Go
theorem m1 (n : Int) : EW (.v (.int .u8 n)) = n := rfl
end Go.Bal.DL
namespace Go.Bal
open Go Go.Sym Go.Proofs
structure Stm where
 bs : List Int
 used : Int
 mix : Int
 deriving Inhabited
end Go.Bal
namespace Go.Bal.DL
theorem m2 (s : Stm) : Stm.mk s.bs s.used s.mix = s := rfl
end Go.Bal.DL
namespace Go.Bal
open Go Go.Sym Go.Proofs
def Ip (l : List Int) : DVal := Pw 1 l.length λ i => .v (.int .u8 (gD l i))
def Ow (s : Stm) : AObj := .box [.d (Ip s.bs), .int s.used, .int s.mix]
def VX (s : Stm) : HCell := .live (Ow s)
def Ib (H : Heap) (id : Nat) : Option Stm := match H id with
 | .live (.box [.d (.list _ n g _), .d (.v (.int _ u)), .d (.v (.int _ m))]) => some ⟨AC n λ i => EW (g i), u, m⟩
 | _ => none
def C30 : Ctr := { α := List Int, xs := λ l => [.d (Ip l)], L := λ _ => [], val := λ _ => .bptr 0 0, keep := λ l => [(0, VX ⟨l, 0, 0⟩)] }
def d30 : List AVal -> Heap -> Option (List Int × List (Nat × Nat) × List Nat)
 | [.d (.list _ n g _)], _ => some (AC n λ i => EW (g i), [], [])
 | _, _ => none
def V30 (l : List Int) : Prop := BM Try.prog (ann 6 []) Try.f30 (AJ Try.f30) (C30.xs l) (AE []) (C30.val l) (C30.keep l) [(0, 2032)] []
theorem vc30 (l : List Int) : (V30 l) = (l.length = l.length /\ (∀ (i : Nat), i < l.length -> gD l i = gD l i) /\ (0 : Int) = Int.ofNat (0 : Nat) /\ (0 : Int) = Int.ofNat (0 : Nat)) := by kernel_rfl
def GZ (s : Stm) : Int := if s.bs.length <= s.used then wr (wr (gD s.bs (s.used.tmod s.bs.length).toNat) + wr (wr (11 * s.mix) + wr (s.used.tdiv s.bs.length))) else wr (gD s.bs (s.used.tmod s.bs.length).toNat)
def LM (s : Stm) : Int := (wr (wr (wr (5 * s.mix) + GZ s) + 1)).tmod 251
def Eg (s : Stm) (n : Int) : Bool := if n < 2 then true else decide (s.bs.length = 0)
def AM (s : Stm) (n : Int) : Stm := if Eg s n then s else ⟨s.bs, wr (s.used + 1), LM s⟩
def AS (s : Stm) (n : Int) : Int := if Eg s n then 0 else (if 256 < n then wr (wr (256 * GZ s) + LM s) else GZ s).tmod n
structure SN where
 s : Stm
 n : Int
def C33 : Ctr := { α := SN, xs := λ a => [.bptr 100 0, .int a.n], L := λ a => [(100, Ow a.s)], val := λ a => .int (AS a.s a.n), keep := λ a => [(100, VX (AM a.s a.n))], pre := λ a => [0 <= a.s.used] }
def Qf : List AVal -> Heap -> Option (SN × List (Nat × Nat) × List Nat)
 | [.bptr p _, .d (.v (.int _ n))], H => match Ib H p with
  | some s => some (⟨s, n⟩, [(100, p)], [])
  | none => none
 | _, _ => none
def A33 : Ann := { ann 92 [] with E := [100] }
def V33 (a : SN) : Prop := BM Try.prog A33 Try.f33 (AJ Try.f33) (C33.xs a) (AE (C33.L a)) (C33.val a) (C33.keep a) [] []
theorem vc33 (a : SN) : (V33 a) = (let q := a
 let y0 := (AM q.s q.n).bs.length = q.s.bs.length
 let y1 := ∀ (i : Nat), i < (AM q.s q.n).bs.length -> gD (AM q.s q.n).bs i = gD q.s.bs i
 let y2 := q.s.used.tmod (↑q.s.bs.length : Int)
 let y3 := Int.ofNat (251 : Nat) = Int.ofNat (0 : Nat) -> False
 let y4 := decide (q.n > (256 : Int))
 let y5 := q.n = (0 : Int) -> False
 let y6 := IntKind.i64.wrap (gD q.s.bs y2.toNat)
 let y7 := IntKind.i64.wrap (y6 + IntKind.i64.wrap (IntKind.i64.wrap ((11 : Int) * q.s.mix) + IntKind.i64.wrap (q.s.used.tdiv (↑q.s.bs.length : Int))))
 let y8 := IntKind.i64.wrap ((5 : Int) * q.s.mix)
 let y9 := (IntKind.i64.wrap (IntKind.i64.wrap (y8 + y7) + (1 : Int))).tmod (251 : Int)
 let y10 := (AM q.s q.n).used = IntKind.i64.wrap (q.s.used + (1 : Int))
 let y11 := y0 /\ y1 /\ y10 /\ (AM q.s q.n).mix = y9
 let y12 := (IntKind.i64.wrap (IntKind.i64.wrap (y8 + y6) + (1 : Int))).tmod (251 : Int)
 let y13 := y0 /\ y1 /\ y10 /\ (AM q.s q.n).mix = y12
 (bif bif decide (a.n < (2 : Int)) then true else (↑a.s.bs.length : Int) == (0 : Int) then AS a.s a.n = (0 : Int) /\ y0 /\ y1 /\ (AM a.s a.n).used = a.s.used /\ (AM a.s
 a.n).mix = a.s.mix else ((↑a.s.bs.length : Int) ≠ (0 : Int) /\ (0 : Int) <= y2 /\ y2 < (↑a.s.bs.length : Int)) /\ bif decide (a.s.used >= (↑a.s.bs.length : Int)) then ((↑a.s.bs.length : Int) = (0 : Int) -> False) /\
 y3 /\ bif y4 then y5 /\ AS a.s a.n = (IntKind.i64.wrap (IntKind.i64.wrap ((256 : Int) * y7) + y9)).tmod a.n /\ y11 else y5 /\ AS a.s a.n = y7.tmod a.n /\ y11 else y3 /\ bif
 y4 then y5 /\ AS a.s a.n = (IntKind.i64.wrap (IntKind.i64.wrap ((256 : Int) * y6) + y12)).tmod a.n /\ y13 else y5 /\ AS a.s a.n = y6.tmod a.n /\ y13)) := by kernel_rfl
def Br (lo hi : Int) : Int := wr (wr (hi - lo) + 1)
def LZ (s : Stm) (lo hi : Int) : Int := wr (lo + AS s (Br lo hi))
def QA (s : Stm) (lo hi : Int) : Stm := AM s (Br lo hi)
structure SW where
 s : Stm
 lo : Int
 hi : Int
def C43 : Ctr := { α := SW, xs := λ a => [.bptr 100 0, .int a.lo, .int a.hi], L := λ a => [(100, Ow a.s)], val := λ a => .int (LZ a.s a.lo a.hi), keep := λ a => [(100, VX (QA a.s a.lo a.hi))], pre := λ a => [0 <= a.s.used] }
def Zb : List AVal -> Heap -> Option (SW × List (Nat × Nat) × List Nat)
 | [.bptr p _, .d (.v (.int _ n)), .d (.v (.int _ m))], H => match Ib H p with
  | some s => some (⟨s, n, m⟩, [(100, p)], [])
  | none => none
 | _, _ => none
def A43 : Ann := { ann 15 [(33, C33.spec Qf)] with E := [100] }
def V43 (a : SW) : Prop := BM Try.prog A43 Try.f43 (AJ Try.f43) (C43.xs a) (AE (C43.L a)) (C43.val a) (C43.keep a) [] []
theorem vc43 (a : SW) : (V43 a) = ((IntKind.i64.wrap (IntKind.i64.wrap (a.hi - a.lo) + 1) = IntKind.i64.wrap (IntKind.i64.wrap (a.hi - a.lo) + 1) /\ (AC a.s.bs.length λ (i : Nat) => gD a.s.bs i).length = a.s.bs.length
 /\ (∀ (i : Nat), i < (AC a.s.bs.length λ (i : Nat) => gD a.s.bs i).length -> gD (AC a.s.bs.length λ (i : Nat) => gD a.s.bs i) i = gD a.s.bs i) /\ a.s.used = a.s.used /\ a.s.mix = a.s.mix /\ (a.s.used - 0).NonNeg) /\ LZ
 a.s a.lo a.hi = IntKind.i64.wrap (a.lo + AS (Stm.mk (AC a.s.bs.length λ (i : Nat) => gD a.s.bs i) a.s.used a.s.mix) (IntKind.i64.wrap (IntKind.i64.wrap (a.hi - a.lo) + 1))) /\ (QA a.s a.lo a.hi).bs.length = (AM
 (Stm.mk (AC a.s.bs.length λ (i : Nat) => gD a.s.bs i) a.s.used a.s.mix) (IntKind.i64.wrap (IntKind.i64.wrap (a.hi - a.lo) + 1))).bs.length /\ (∀ (i : Nat), i < (QA a.s a.lo a.hi).bs.length -> gD (QA a.s a.lo
 a.hi).bs i = gD (AM (Stm.mk (AC a.s.bs.length λ (i : Nat) => gD a.s.bs i) a.s.used a.s.mix) (IntKind.i64.wrap (IntKind.i64.wrap (a.hi - a.lo) + 1))).bs i) /\ (QA a.s a.lo a.hi).used = (AM (Stm.mk (AC
 a.s.bs.length λ (i : Nat) => gD a.s.bs i) a.s.used a.s.mix) (IntKind.i64.wrap (IntKind.i64.wrap (a.hi - a.lo) + 1))).used /\ (QA a.s a.lo a.hi).mix = (AM (Stm.mk (AC a.s.bs.length λ (i : Nat) => gD a.s.bs i)
 a.s.used a.s.mix) (IntKind.i64.wrap (IntKind.i64.wrap (a.hi - a.lo) + 1))).mix) := by kernel_rfl
theorem p30 (l : List Int) : V30 l := by
 rw [vc30]; exact ⟨rfl, λ _ _ => rfl, rfl, rfl⟩
theorem Yj : AL Try.prog 30 (C30.spec d30) := JC C30 (λ _ => ann 6 []) [(0, 2032)] [] Try.func30 (λ _ => by kernel_rfl) (λ _ => AH) (λ l _ => p30 l) (λ _ => KF rfl rfl) _
theorem Uc (s : Stm) (n : Int) : (bif decide (n < 2) then true else (s.bs.length : Int) == 0) = Eg s n := by
 unfold Eg
 by_cases h : n < 2
 ·simp [h]
 ·simp only [h, decide_false, cond_false, if_false]
  by_cases h2 : s.bs.length = 0
  ·simp [h2]
  ·have : ¬ (s.bs.length : Int) = 0 := by omega
   simp [h2]
theorem Qe {a b : Int} (ha : 0 <= a) (hb : 0 < b) : 0 <= a.tmod b /\ a.tmod b < b := by
 rw [Int.tmod_eq_emod_of_nonneg ha]
 exact ⟨Int.emod_nonneg _ (by omega), Int.emod_lt_of_pos _ hb⟩
theorem p33 (a : SN) (h : 0 <= a.s.used) : V33 a := by
 rw [vc33]; (conv => zeta); simp only [CC, eq_self, implies_true, forall_const, Uc]
 refine ⟨λ hi => ?_, λ hi => ?_⟩
 ·have e1 : AS a.s a.n = 0 := by unfold AS; rw [hi]; rfl
  have e2 : AM a.s a.n = a.s := by unfold AM; rw [hi]; rfl
  rw [e1, e2]; exact ⟨rfl, rfl, λ _ _ => rfl, rfl, rfl⟩
 have hi2 : ¬ a.n < 2 /\ ¬ a.s.bs.length = 0 := by
  unfold Eg at hi
  by_cases x : a.n < 2
  ·rw [if_pos x] at hi; cases hi
  ·rw [if_neg x] at hi; exact ⟨x, by simpa using hi⟩
 obtain ⟨i1, i2⟩ := hi2
 have e1 : AS a.s a.n = (if 256 < a.n then wr (wr (256 * GZ a.s) + LM a.s) else GZ a.s).tmod a.n := by unfold AS; rw [hi]; rfl
 have e2 : AM a.s a.n = ⟨a.s.bs, wr (a.s.used + 1), LM a.s⟩ := by unfold AM; rw [hi]; rfl
 have hm := Qe h (show 0 < (a.s.bs.length : Int) by omega)
 rw [e1, e2]
 refine ⟨⟨by omega, hm⟩, λ hu => ⟨by omega, by decide, λ hn => ⟨by omega, ?_⟩, λ hn => ⟨by omega, ?_⟩⟩, λ hu => ⟨by decide, λ hn => ⟨by omega, ?_⟩, λ hn => ⟨by omega, ?_⟩⟩⟩
 ·rw [if_pos (by omega)]; unfold LM GZ; rw [if_pos (by omega)]; exact ⟨rfl, rfl, λ _ _ => rfl, rfl, rfl⟩
 ·rw [if_neg (by omega)]; unfold LM GZ; rw [if_pos (by omega)]; exact ⟨rfl, rfl, λ _ _ => rfl, rfl, rfl⟩
 ·rw [if_pos (by omega)]; unfold LM GZ; rw [if_neg (by omega)]; exact ⟨rfl, rfl, λ _ _ => rfl, rfl, rfl⟩
 ·rw [if_neg (by omega)]; unfold LM GZ; rw [if_neg (by omega)]; exact ⟨rfl, rfl, λ _ _ => rfl, rfl, rfl⟩
theorem Hh : AL Try.prog 33 (C33.spec Qf) := JC C33 (λ _ => A33) [] [] Try.func33 (λ _ => by kernel_rfl) (λ _ => AH) (λ a h => p33 a h) (λ _ => KF rfl rfl) _
theorem p43 (a : SW) (h : 0 <= a.s.used) : V43 a := by
 rw [vc43]; simp only [CC, eq_self, implies_true, forall_const]
 exact ⟨h, rfl, rfl, λ _ _ => rfl, rfl, rfl⟩
theorem Nk : AL Try.prog 43 (C43.spec Zb) := JC C43 (λ _ => A43) [] [] Try.func43 (λ _ => by kernel_rfl) (λ _ => AB Hh AH) (λ a h => p43 a h) (λ _ => KF rfl rfl) _
structure StmB (K : Int) (s : Stm) : Prop where
 used : 0 <= s.used /\ s.used <= K
 mix : 0 <= s.mix /\ s.mix < 251
 bs : ∀ i, i < s.bs.length -> 0 <= gD s.bs i /\ gD s.bs i <= 255
theorem Ep {a b : Int} (ha : 0 <= a) (hb : 0 < b) : 0 <= a.tmod b /\ a.tmod b < b := by
 rw [Int.tmod_eq_emod_of_nonneg ha]
 exact ⟨Int.emod_nonneg _ (by omega), Int.emod_lt_of_pos _ hb⟩
theorem Gt {K : Int} {s : Stm} (h : StmB K s) (hK : K <= 1000000000000000) (hb : s.bs.length ≠ 0) : 0 <= GZ s /\ GZ s <= 1000000000010000 := by
 have hu := h.used
 have hm := h.mix
 have hi := Ep hu.1 (show 0 < (s.bs.length : Int) by omega)
 have hx := h.bs (s.used.tmod s.bs.length).toNat (by omega)
 have hq : 0 <= s.used.tdiv s.bs.length /\ s.used.tdiv s.bs.length <= 1000000000000000 := by
  rw [Int.tdiv_eq_ediv_of_nonneg hu.1]
  refine ⟨Int.ediv_nonneg hu.1 (by omega), ?_⟩
  have := Int.ediv_le_self (s.bs.length : Int) hu.1
  omega
 have e0 : wr (gD s.bs (s.used.tmod s.bs.length).toNat) = gD s.bs (s.used.tmod s.bs.length).toNat := OT (by omega) (by omega)
 have e1 : wr (11 * s.mix) = 11 * s.mix := OT (by omega) (by omega)
 have e2 : wr (s.used.tdiv s.bs.length) = s.used.tdiv s.bs.length := OT (by omega) (by omega)
 have e3 : wr (11 * s.mix + s.used.tdiv s.bs.length) = 11 * s.mix + s.used.tdiv s.bs.length := OT (by omega) (by omega)
 have e4 : wr (gD s.bs (s.used.tmod s.bs.length).toNat + (11 * s.mix + s.used.tdiv s.bs.length)) = gD s.bs (s.used.tmod s.bs.length).toNat + (11 * s.mix + s.used.tdiv s.bs.length) := OT (by omega) (by omega)
 unfold GZ
 rw [e0, e1, e2, e3, e4]
 split <;> omega
theorem Hd {K : Int} {s : Stm} (h : StmB K s) (hK : K <= 1000000000000000) (hb : s.bs.length ≠ 0) : 0 <= LM s /\ LM s < 251 := by
 have hm := h.mix
 have hn := Gt h hK hb
 have e1 : wr (5 * s.mix) = 5 * s.mix := OT (by omega) (by omega)
 have e2 : wr (5 * s.mix + GZ s) = 5 * s.mix + GZ s := OT (by omega) (by omega)
 have e3 : wr (5 * s.mix + GZ s + 1) = 5 * s.mix + GZ s + 1 := OT (by omega) (by omega)
 unfold LM
 rw [e1, e2, e3]
 exact Ep (by omega) (by omega)
theorem Oz {s : Stm} {n : Int} (h : Eg s n = false) : 2 <= n /\ s.bs.length ≠ 0 := by
 unfold Eg at h
 by_cases x : n < 2
 ·rw [if_pos x] at h; cases h
 ·rw [if_neg x] at h; exact ⟨by omega, by simpa using h⟩
theorem StmB.mono {K M : Int} {s : Stm} (h : StmB K s) (hK : K <= M) : StmB M s := ⟨⟨h.used.1, by have := h.used; omega⟩, h.mix, h.bs⟩
theorem StmB.next {K : Int} {s : Stm} (h : StmB K s) (hK : K <= 1000000000000000) (n : Int) : StmB (K + 1) (AM s n) := by
 unfold AM
 cases hi : Eg s n with
 | true => exact h.mono (by omega)
 | false =>
  obtain ⟨_, hb⟩ := Oz hi
  have hu := h.used
  have e : wr (s.used + 1) = s.used + 1 := OT (by omega) (by omega)
  refine ⟨?_, Hd h hK hb, h.bs⟩
  show 0 <= wr (s.used + 1) /\ wr (s.used + 1) <= K + 1
  rw [e]; omega
theorem EQ {K : Int} {s : Stm} (h : StmB K s) (hK : K <= 1000000000000000) (n : Int) : 0 <= AS s n /\ (1 <= n -> AS s n < n) := by
 unfold AS
 cases hi : Eg s n with
 | true => exact ⟨Int.le_refl _, λ h => by show (0 : Int) < n; omega⟩
 | false =>
  obtain ⟨hn, hb⟩ := Oz hi
  have h1 := Gt h hK hb
  have h2 := Hd h hK hb
  have e1 : wr (256 * GZ s) = 256 * GZ s := OT (by omega) (by omega)
  have e2 : wr (256 * GZ s + LM s) = 256 * GZ s + LM s := OT (by omega) (by omega)
  rw [e1, e2]
  have := Ep (a := if 256 < n then 256 * GZ s + LM s else GZ s) (b := n) (by split <;> omega) (by omega)
  exact ⟨this.1, λ _ => this.2⟩
theorem TW {K : Int} {s : Stm} (h : StmB K s) (hK : K <= 1000000000000000) {lo hi : Int} (h1 : -1000000000 <= lo) (h2 : lo <= hi) (h3 : hi <= 1000000000) : lo <= LZ s lo hi /\ LZ s lo hi <= hi := by
 have e1 : wr (hi - lo) = hi - lo := OT (by omega) (by omega)
 have e2 : wr (hi - lo + 1) = hi - lo + 1 := OT (by omega) (by omega)
 unfold LZ Br
 rw [e1, e2]
 have := EQ h hK (hi - lo + 1)
 have h4 := this.2 (by omega)
 have e3 : wr (lo + AS s (hi - lo + 1)) = lo + AS s (hi - lo + 1) := OT (by omega) (by omega)
 rw [e3]; omega
end Go.Bal
