/- Package rating: what is made of numbers (no program in sight). -/
import Derived.Test.YtoihhodbkimedaaRT2
import Derived.Test.YtoihhodbkimedaaRatY
set_option linter.unusedVariables false
set_option linter.unusedSimpArgs false
namespace Go.Bal
open Go Go.Sym Go.Proofs
structure Fits (l : List Gau) (r : Rtg) : Prop where
 len : 1 <= l.length
 ok : ∀ g ∈ l, GY g
 small : ∀ g ∈ l, g.st <= 199 /\ g.hi <= 2000
 asc : asc r.b
 brk : ∀ x ∈ r.b, 1 <= x /\ x <= 120
 two : r.b.length <= 2
 lines : r.l.length = r.b.length + 1
 rise : ∀ x ∈ r.l, DS x
 pass : ∀ g ∈ l, (DD (gD r.l (LI r.b g.st))).pass g
theorem AZY {b : List Int} {t : Int} : ∀ (n k : Nat), (∀ j, k <= j -> j < ptK b t n k -> gD b j <= t) /\ (ptK b t n k < k + n -> ¬gD b (ptK b t n k) <= t)
 | 0, k => ⟨λ j h1 h2 => by have : j < k := h2; omega, λ h => by have : k < k + 0 := h; omega⟩
 | n + 1, k => by
  unfold ptK
  by_cases hc : gD b k <= t
  ·rw [decide_eq_true hc]
   obtain ⟨h1, h2⟩ := AZY (b := b) (t := t) n (k + 1)
   refine ⟨λ j a1 a2 => ?_, λ h => h2 (by show ptK b t n (k + 1) < _; have : ptK b t n (k + 1) < k + (n + 1) := h; omega)⟩
   by_cases hj : j = k
   ·rw [hj]; exact hc
   ·exact h1 j (by omega) a2
  ·rw [decide_eq_false hc]
   exact ⟨λ j a1 a2 => by have : j < k := a2; omega, λ _ => hc⟩
theorem BWZ {b : List Int} {t : Int} (hb : asc b) : ptM b t = LI b t := by
 obtain ⟨h1, h2⟩ := AZY (b := b) (t := t) b.length 0
 have hle := BGE (b := b) (t := t) b.length 0
 symm
 unfold LI ptM
 refine yA (by omega) (λ j hj => decide_eq_true (h1 j (Nat.zero_le _) hj)) (λ j hj hj2 => decide_eq_false ?_)
 have h3 := h2 (by omega)
 intro hc
 by_cases he : ptK b t b.length 0 = j
 ·exact h3 (he ▸ hc)
 ·have := Ax hb (show ptK b t b.length 0 < j by omega) hj2
  omega
theorem BLI : ∀ (n : Nat) (x : MB) (K : Int), StmB K x.s -> K + n <= 1000000 -> asc x.b -> (∀ y ∈ x.b, 5 <= y /\ y <= x.a) -> 0 <= x.a /\ x.a + 60 * n <= 100000 -> asc (mkB n x).b /\ (∀ y ∈ (mkB n x).b, 5 <= y /\ y <= (mkB n x).a) /\ (mkB n x).b.length = x.b.length + n
 | 0, x, K, _, _, h1, h2, h3 => ⟨h1, h2, rfl⟩
 | n + 1, x, K, hs, hK, h1, h2, h3 => by
  have hw := Ry hs (by omega) (lo := 5) (hi := 60) (by omega) (by omega) (by omega)
  have ha : wr (x.a + JS x.s 5 60) = x.a + JS x.s 5 60 := EO (by omega) (by omega)
  have := BLI n (stpB x) (K + 1) (KQ hs (by omega) 5 60) (by omega) (by
   show asc (x.b ++ [wr _]); rw [ha]
   refine List.pairwise_append.2 ⟨h1, List.pairwise_singleton _ _, λ y hy z hz => ?_⟩
   rw [List.mem_singleton.1 hz]; have := h2 y hy; omega) (λ y hy => by
   show 5 <= y /\ y <= wr _
   rw [ha]
   have hy : y ∈ x.b ++ [wr (x.a + JS x.s 5 60)] := hy
   rw [ha] at hy
   rcases List.mem_append.1 hy with hy | hy
   ·have := h2 y hy; omega
   ·rw [List.mem_singleton.1 hy]; omega) (by show 0 <= wr _ /\ wr _ + _ <= _; rw [ha]; omega)
  refine ⟨this.1, this.2.1, ?_⟩
  show (mkB n (stpB x)).b.length = _
  rw [this.2.2]
  show (x.b ++ [_]).length + n = _
  rw [List.length_append, List.length_singleton]; omega
theorem BQK {a : MkI} (h : M0 a) : Hq a ⟨0, mB a.s⟩ /\ asc (mB a.s).b /\ ∀ y ∈ (mB a.s).b, 1 <= y /\ y <= 120 := by
 obtain ⟨hs, hm1, hm2⟩ := h
 have hn := GV hs (by omega) 3
 have hn2 := hn.2 (by omega)
 have i0 : Hq a ⟨(AN a.s 3).toNat, ⟨BF a.s 3, 0, []⟩⟩ := ⟨by show (AN a.s 3).toNat <= 2; omega, (hs.next (by omega) 3).mono (by show _ <= 3 - (((AN a.s 3).toNat : Nat) : Int); omega), rfl, by show ((0 : Nat) : Int) + ((AN a.s 3).toNat : Nat) <= 2; omega, Int.le_refl _, by show 0 <= 60 * (2 - (((AN a.s 3).toNat : Nat) : Int)); omega⟩
 have go : ∀ (n : Nat) (y : KB), y.k = n -> Hq a y -> Hq a ⟨0, mB a.s⟩ := λ n => by
  induction n with
  | zero => exact λ y h1 h2 => (CAW h2 (by omega)).2
  | succ n ih => exact λ y h1 h2 => ih _ (by show y.k - 1 = n; omega) (BOH h2 (by omega))
 have hf := go _ _ rfl i0
 have hg := BLI (AN a.s 3).toNat ⟨BF a.s 3, 0, []⟩ 1 (hs.next (by omega) 3) (by omega) .nil (λ y hy => by cases hy) (by show (0 : Int) <= 0 /\ (0 : Int) + _ <= _; omega)
 refine ⟨hf, hg.1, λ y hy => ?_⟩
 have h2 := hg.2.1 y hy
 have h3 : (mB a.s).a <= 60 * (2 - ((0 : Nat) : Int)) := hf.2.2.2.2.2
 have h4 : y <= (mB a.s).a := h2.2
 omega
theorem CFO {a : MkI} (h : M0 a) : fin9 a := by
 obtain ⟨hB, _⟩ := BQK h
 have i0 : V4 a ⟨0, ⟨(mB a.s).s, []⟩⟩ := ⟨hB, Nat.zero_le _, (show StmB (3 - ((0 : Nat) : Int)) (mB a.s).s from hB.2.1).mono (by show _ <= 3 + 4 * ((0 : Nat) : Int); omega), rfl, rfl, λ z hz => by cases hz⟩
 have go : ∀ (n : Nat) (y : KL), (mB a.s).b.length + 1 - y.k = n -> V4 a y -> fin9 a := λ n => by
  induction n with
  | zero => exact λ y h1 h2 => (CIJ h2 (by have := h2.2.1; omega)).2
  | succ n ih => exact λ y h1 h2 => ih _ (by show (mB a.s).b.length + 1 - (y.k + 1) = n; omega) (BMM h2 (by omega))
 exact go _ _ rfl i0
def BVN (b : List Int) (ls : List Ln) (g : Gau) : Prop := (0 <= g.st /\ g.st <= 199) /\ 0 <= g.lo /\ g.lo <= g.hi /\ g.hi <= 2000 /\ (DD (gD ls (ptM b g.st))).pass g
theorem BVZ {x : Ln} {s : Stm} {t K : Int} (hx : okMk x) (ht : 0 <= t /\ t <= 199) (hs : StmB K s) (hK : K <= 1000000) (hu : (bif decide (Hl x t < 0) then true else decide (Hl x t > wr (1000 * Vp x))) = false) : (Br x s t).st = t /\ 0 <= (Br x s t).lo /\ (Br x s t).lo <= (Br x s t).hi /\ (Br x s t).hi <= 2000 /\ (DD x).pass (Br x s t) := by
 obtain ⟨b1, b2, b3, b4, b5⟩ := ANS hx ht
 have v1 := GV hs (by omega) 6
 have v2 := Ry (hs.next (by omega) 6) (by omega) (lo := 1) (hi := 6) (by omega) (by omega) (by omega)
 have hw : 1 <= Vp x := by rw [b1]; exact hx.2.1.1
 have hu1 : ¬Hl x t < 0 := by
  intro hc; rw [decide_eq_true hc] at hu; cases hu
 rw [decide_eq_false hu1, b3] at hu
 have hu2 : Hl x t <= 1000 * Vp x := by have := of_decide_eq_false (show decide (Hl x t > 1000 * Vp x) = false from hu); omega
 have e1 : (Hl x t).tdiv (Vp x) = Hl x t / Vp x := Int.tdiv_eq_ediv_of_nonneg (by omega)
 have q1 : 0 <= Hl x t / Vp x := Int.ediv_nonneg (by omega) (by omega)
 have q2 : Hl x t / Vp x * Vp x <= Hl x t := Int.ediv_mul_le _ (by omega)
 have q3 : Hl x t < (Hl x t / Vp x + 1) * Vp x := Int.lt_ediv_add_one_mul_self _ (by omega)
 have q4 : Hl x t / Vp x <= 1000 := by
  refine Int.ediv_le_of_le_mul (by omega) ?_; exact hu2
 have eV : vG x t = Hl x t / Vp x := by unfold vG; rw [e1]; exact EO (by omega) (by omega)
 have eN : (DD x).num t = Hl x t := by rw [AFL, b2]
 have eW : (DD x).w = Vp x := by rw [b1]; rfl
 generalize hV : Hl x t / Vp x = V at *
 have eL : wr (vG x t - AN s 6) = V - AN s 6 := by rw [eV]; exact EO (by have := v1.2 (by omega); omega) (by omega)
 have eH : wr (vG x t + JS (BF s 6) 1 6) = V + JS (BF s 6) 1 6 := by rw [eV]; exact EO (by omega) (by omega)
 have lo1 : (Br x s t).lo = Ve 0 (V - AN s 6) := by show mxG _ = _; rw [eL]; rfl
 have hi1 : (Br x s t).hi = V + JS (BF s 6) 1 6 := eH
 have lo2 : 0 <= (Br x s t).lo /\ (Br x s t).lo <= V := by rw [lo1]; unfold Ve; split <;> omega
 refine ⟨rfl, lo2.1, by rw [hi1]; omega, by rw [hi1]; omega, ?_⟩
 unfold Rl.pass
 rw [show (Br x s t).st = t from rfl, eN, eW]
 have m1 := Int.mul_le_mul_of_nonneg_right lo2.2 (show 0 <= Vp x by omega)
 have m2 := Int.mul_le_mul_of_nonneg_right (show V + 1 <= (Br x s t).hi by rw [hi1]; omega) (show 0 <= Vp x by omega)
 constructor <;> omega
theorem AYL {b : List Int} {ls : List Ln} {n : Int} (hl : ls.length = b.length + 1) (ho : ∀ x ∈ ls, okMk x) (hn : 1 <= n /\ n <= 200) : ∀ (k : Nat) (x : MG) (K : Int), StmB K x.s -> K + 3 * k <= 1000000 -> (∀ g ∈ x.l, BVN b ls g) -> (∀ g ∈ (mkG b ls n k x).l, BVN b ls g) /\ (mkG b ls n k x).l.length <= x.l.length + k
 | 0, x, K, _, _, h => ⟨h, Nat.le_refl _⟩
 | k + 1, x, K, hs, hK, h => by
  have hv := GV hs (by omega) n
  have hv2 := hv.2 hn.1
  have s1 := hs.next (by omega) n
  have s2 := s1.next (by omega) 6
  have s3 := KQ s2 (by omega) 1 6
  have hx : okMk (gD ls (ptM b (AN x.s n))) := by
   have := BGE (b := b) (t := AN x.s n) b.length 0
   exact ho _ (BZ (by rw [hl]; unfold ptM; omega))
  show (∀ g ∈ (mkG b ls n k (UU (gD ls (ptM b (AN x.s n))) (BF x.s n) (AN x.s n) x.l)).l, BVN b ls g) /\ (mkG b ls n k (UU (gD ls (ptM b (AN x.s n))) (BF x.s n) (AN x.s n) x.l)).l.length <= _
  cases hu : (bif decide (Hl (gD ls (ptM b (AN x.s n))) (AN x.s n) < 0) then true else decide (Hl (gD ls (ptM b (AN x.s n))) (AN x.s n) > wr (1000 * Vp (gD ls (ptM b (AN x.s n)))))) with
  | true =>
   have es : UU (gD ls (ptM b (AN x.s n))) (BF x.s n) (AN x.s n) x.l = ⟨BF x.s n, x.l⟩ := by unfold UU; rw [hu]; rfl
   rw [es]
   have := AYL hl ho hn k ⟨BF x.s n, x.l⟩ (K + 1) s1 (by omega) h
   exact ⟨this.1, by have h2 : _ <= x.l.length + k := this.2; omega⟩
  | false =>
   have es : UU (gD ls (ptM b (AN x.s n))) (BF x.s n) (AN x.s n) x.l = ⟨US (BF (BF x.s n) 6) 1 6, x.l ++ [Br (gD ls (ptM b (AN x.s n))) (BF x.s n) (AN x.s n)]⟩ := by unfold UU; rw [hu]; rfl
   rw [es]
   obtain ⟨g1, g2, g3, g4, g5⟩ := BVZ hx ⟨hv.1, by omega⟩ s1 (by omega) hu
   have := AYL hl ho hn k ⟨US (BF (BF x.s n) 6) 1 6, x.l ++ [Br (gD ls (ptM b (AN x.s n))) (BF x.s n) (AN x.s n)]⟩ (K + 1 + 1 + 1) s3 (by omega) (λ g hg => by
    rcases List.mem_append.1 hg with hg | hg
    ·exact h g hg
    ·rw [List.mem_singleton.1 hg]
     exact ⟨by rw [g1]; omega, g2, g3, g4, by rw [g1]; exact g5⟩)
   refine ⟨this.1, ?_⟩
   have h2 : _ <= (x.l ++ [_]).length + k := this.2
   rw [List.length_append, List.length_singleton] at h2; omega
theorem CDT {x : Ln} (h : okMk x) : DS x := by
 obtain ⟨h1, h2, h3, h4⟩ := h
 exact ⟨by omega, by omega, by omega, by omega, by omega, by omega⟩
theorem BUM {a : MkI} (h : M0 a) : Fits (Qf a) (Hr a) /\ (Qf a).length <= a.m.toNat := by
 have hF := CFO h
 obtain ⟨hB, hasc, hbr⟩ := BQK h
 obtain ⟨g1, g2, g3, g4, g5⟩ := BAV hF
 have hm := h.2
 have hw := Ry g5 (by omega) (lo := 1) (hi := a.m) (by omega) hm.1 (by omega)
 have hG := AYL g3 g4 (n := hiG a) (by rw [BPC hF]; omega) (JS (mL a.s).s 1 a.m).toNat (mG0 a) 16 (KQ g5 (by omega) 1 a.m) (by omega) (λ g hg => by cases hg)
 obtain ⟨G1, G2⟩ := hG
 have G2 : (mG a).l.length <= 0 + (JS (mL a.s).s 1 a.m).toNat := G2
 by_cases he : (mG a).l.length = 0
 ·have e1 : Qf a = [⟨1, 1, 1⟩] := by unfold Qf; rw [decide_eq_true he]; rfl
  have e2 : Hr a = ⟨[], [⟨0, 0, 1, 1⟩]⟩ := by unfold Hr; rw [decide_eq_true he]; rfl
  rw [e1, e2]
  refine ⟨⟨Nat.le_refl _, λ g hg => ?_, λ g hg => ?_, .nil, λ x hx => (by cases hx), Nat.zero_le _, rfl, λ x hx => ?_, λ g hg => ?_⟩, by show 1 <= _; omega⟩
  ·rw [List.mem_singleton.1 hg]; unfold GY; decide
  ·rw [List.mem_singleton.1 hg]; decide
  ·have := List.mem_singleton.1 hx; subst this; unfold DS; decide
  ·rw [List.mem_singleton.1 hg]
   show _ /\ _
   decide
 ·have e1 : Qf a = (mG a).l := by unfold Qf; rw [decide_eq_false he]; rfl
  have e2 : Hr a = ⟨(mB a.s).b, (mL a.s).l⟩ := by unfold Hr; rw [decide_eq_false he]; rfl
  rw [e1, e2]
  refine ⟨⟨by omega, λ g hg => ?_, λ g hg => ?_, hasc, hbr, by show (mB a.s).b.length <= 2; omega, g3, λ x hx => CDT (g4 x hx), λ g hg => ?_⟩, by omega⟩
  ·obtain ⟨a1, a2, a3, a4, a5⟩ := G1 g hg
   unfold GY; omega
  ·obtain ⟨a1, a2, a3, a4, a5⟩ := G1 g hg; omega
  ·obtain ⟨a1, a2, a3, a4, a5⟩ := G1 g hg
   rw [BWZ hasc] at a5; exact a5
end Go.Bal
