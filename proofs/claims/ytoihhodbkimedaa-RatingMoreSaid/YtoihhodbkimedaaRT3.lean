/- Package rating: what is made of numbers (no program in sight). -/
import Derived.Test.YtoihhodbkimedaaRT2
import Derived.Test.YtoihhodbkimedaaRatY
set_option linter.unusedVariables false
set_option linter.unusedSimpArgs false
namespace Go.Bal
open Go Go.Sym Go.Proofs
structure Fits (l : List Gau) (r : Rtg) : Prop where
 len : 1 <= l.length
 ok : ∀ g ∈ l, okG g
 small : ∀ g ∈ l, g.st <= 199 /\ g.hi <= 2000
 asc : asc r.b
 brk : ∀ x ∈ r.b, 1 <= x /\ x <= 120
 two : r.b.length <= 2
 lines : r.l.length = r.b.length + 1
 rise : ∀ x ∈ r.l, okL x
 pass : ∀ g ∈ l, (rlL (gD r.l (leC r.b g.st))).pass g
theorem ptK_spec {b : List Int} {t : Int} : ∀ (n k : Nat), (∀ j, k <= j -> j < ptK b t n k -> gD b j <= t) /\ (ptK b t n k < k + n -> ¬gD b (ptK b t n k) <= t)
 | 0, k => ⟨λ j h1 h2 => by have : j < k := h2; omega, λ h => by have : k < k + 0 := h; omega⟩
 | n + 1, k => by
  unfold ptK
  by_cases hc : gD b k <= t
  ·rw [decide_eq_true hc]
   obtain ⟨h1, h2⟩ := ptK_spec (b := b) (t := t) n (k + 1)
   refine ⟨λ j a1 a2 => ?_, λ h => h2 (by show ptK b t n (k + 1) < _; have : ptK b t n (k + 1) < k + (n + 1) := h; omega)⟩
   by_cases hj : j = k
   ·rw [hj]; exact hc
   ·exact h1 j (by omega) a2
  ·rw [decide_eq_false hc]
   exact ⟨λ j a1 a2 => by have : j < k := a2; omega, λ _ => hc⟩
theorem ptM_eq {b : List Int} {t : Int} (hb : asc b) : ptM b t = leC b t := by
 obtain ⟨h1, h2⟩ := ptK_spec (b := b) (t := t) b.length 0
 have hle := ptK_le (b := b) (t := t) b.length 0
 symm
 unfold leC ptM
 refine count_at (by omega) (λ j hj => decide_eq_true (h1 j (Nat.zero_le _) hj)) (λ j hj hj2 => decide_eq_false ?_)
 have h3 := h2 (by omega)
 intro hc
 by_cases he : ptK b t b.length 0 = j
 ·exact h3 (he ▸ hc)
 ·have := asc_lt hb (show ptK b t b.length 0 < j by omega) hj2
  omega
theorem mkB_good : ∀ (n : Nat) (x : MB) (K : Int), StmB K x.s -> K + n <= 1000000 -> asc x.b -> (∀ y ∈ x.b, 5 <= y /\ y <= x.a) -> 0 <= x.a /\ x.a + 60 * n <= 100000 -> asc (mkB n x).b /\ (∀ y ∈ (mkB n x).b, 5 <= y /\ y <= (mkB n x).a) /\ (mkB n x).b.length = x.b.length + n
 | 0, x, K, _, _, h1, h2, h3 => ⟨h1, h2, rfl⟩
 | n + 1, x, K, hs, hK, h1, h2, h3 => by
  have hw := witV_in hs (by omega) (lo := 5) (hi := 60) (by omega) (by omega) (by omega)
  have ha : wr (x.a + witV x.s 5 60) = x.a + witV x.s 5 60 := w64 (by omega) (by omega)
  have := mkB_good n (stpB x) (K + 1) (wit_next hs (by omega) 5 60) (by omega) (by
   show asc (x.b ++ [wr _]); rw [ha]
   refine List.pairwise_append.2 ⟨h1, List.pairwise_singleton _ _, λ y hy z hz => ?_⟩
   rw [List.mem_singleton.1 hz]; have := h2 y hy; omega) (λ y hy => by
   show 5 <= y /\ y <= wr _
   rw [ha]
   have hy : y ∈ x.b ++ [wr (x.a + witV x.s 5 60)] := hy
   rw [ha] at hy
   rcases List.mem_append.1 hy with hy | hy
   ·have := h2 y hy; omega
   ·rw [List.mem_singleton.1 hy]; omega) (by show 0 <= wr _ /\ wr _ + _ <= _; rw [ha]; omega)
  refine ⟨this.1, this.2.1, ?_⟩
  show (mkB n (stpB x)).b.length = _
  rw [this.2.2]
  show (x.b ++ [_]).length + n = _
  rw [List.length_append, List.length_singleton]; omega
theorem mkB_inv {a : MkI} (h : preM a) : inv4 a ⟨0, mB a.s⟩ /\ asc (mB a.s).b /\ ∀ y ∈ (mB a.s).b, 1 <= y /\ y <= 120 := by
 obtain ⟨hs, hm1, hm2⟩ := h
 have hn := nextV_in hs (by omega) 3
 have hn2 := hn.2 (by omega)
 have i0 : inv4 a ⟨(nextV a.s 3).toNat, ⟨nextS a.s 3, 0, []⟩⟩ := ⟨by show (nextV a.s 3).toNat <= 2; omega, (hs.next (by omega) 3).mono (by show _ <= 3 - (((nextV a.s 3).toNat : Nat) : Int); omega), rfl, by show ((0 : Nat) : Int) + ((nextV a.s 3).toNat : Nat) <= 2; omega, Int.le_refl _, by show 0 <= 60 * (2 - (((nextV a.s 3).toNat : Nat) : Int)); omega⟩
 have go : ∀ (n : Nat) (y : KB), y.k = n -> inv4 a y -> inv4 a ⟨0, mB a.s⟩ := λ n => by
  induction n with
  | zero => exact λ y h1 h2 => (B_end h2 (by omega)).2
  | succ n ih => exact λ y h1 h2 => ih _ (by show y.k - 1 = n; omega) (B_step h2 (by omega))
 have hf := go _ _ rfl i0
 have hg := mkB_good (nextV a.s 3).toNat ⟨nextS a.s 3, 0, []⟩ 1 (hs.next (by omega) 3) (by omega) .nil (λ y hy => by cases hy) (by show (0 : Int) <= 0 /\ (0 : Int) + _ <= _; omega)
 refine ⟨hf, hg.1, λ y hy => ?_⟩
 have h2 := hg.2.1 y hy
 have h3 : (mB a.s).a <= 60 * (2 - ((0 : Nat) : Int)) := hf.2.2.2.2.2
 have h4 : y <= (mB a.s).a := h2.2
 omega
theorem mkL_inv {a : MkI} (h : preM a) : fin9 a := by
 obtain ⟨hB, _⟩ := mkB_inv h
 have i0 : inv9 a ⟨0, ⟨(mB a.s).s, []⟩⟩ := ⟨hB, Nat.zero_le _, (show StmB (3 - ((0 : Nat) : Int)) (mB a.s).s from hB.2.1).mono (by show _ <= 3 + 4 * ((0 : Nat) : Int); omega), rfl, rfl, λ z hz => by cases hz⟩
 have go : ∀ (n : Nat) (y : KL), (mB a.s).b.length + 1 - y.k = n -> inv9 a y -> fin9 a := λ n => by
  induction n with
  | zero => exact λ y h1 h2 => (L_end h2 (by have := h2.2.1; omega)).2
  | succ n ih => exact λ y h1 h2 => ih _ (by show (mB a.s).b.length + 1 - (y.k + 1) = n; omega) (L_step h2 (by omega))
 exact go _ _ rfl i0
def goodG (b : List Int) (ls : List Ln) (g : Gau) : Prop := (0 <= g.st /\ g.st <= 199) /\ 0 <= g.lo /\ g.lo <= g.hi /\ g.hi <= 2000 /\ (rlL (gD ls (ptM b g.st))).pass g
theorem gau_good {x : Ln} {s : Stm} {t K : Int} (hx : okMk x) (ht : 0 <= t /\ t <= 199) (hs : StmB K s) (hK : K <= 1000000) (hu : (bif decide (upG x t < 0) then true else decide (upG x t > wr (1000 * wdG x))) = false) : (gauG x s t).st = t /\ 0 <= (gauG x s t).lo /\ (gauG x s t).lo <= (gauG x s t).hi /\ (gauG x s t).hi <= 2000 /\ (rlL x).pass (gauG x s t) := by
 obtain ⟨b1, b2, b3, b4, b5⟩ := G_bounds hx ht
 have v1 := nextV_in hs (by omega) 6
 have v2 := witV_in (hs.next (by omega) 6) (by omega) (lo := 1) (hi := 6) (by omega) (by omega) (by omega)
 have hw : 1 <= wdG x := by rw [b1]; exact hx.2.1.1
 have hu1 : ¬upG x t < 0 := by
  intro hc; rw [decide_eq_true hc] at hu; cases hu
 rw [decide_eq_false hu1, b3] at hu
 have hu2 : upG x t <= 1000 * wdG x := by have := of_decide_eq_false (show decide (upG x t > 1000 * wdG x) = false from hu); omega
 have e1 : (upG x t).tdiv (wdG x) = upG x t / wdG x := Int.tdiv_eq_ediv_of_nonneg (by omega)
 have q1 : 0 <= upG x t / wdG x := Int.ediv_nonneg (by omega) (by omega)
 have q2 : upG x t / wdG x * wdG x <= upG x t := Int.ediv_mul_le _ (by omega)
 have q3 : upG x t < (upG x t / wdG x + 1) * wdG x := Int.lt_ediv_add_one_mul_self _ (by omega)
 have q4 : upG x t / wdG x <= 1000 := by
  refine Int.ediv_le_of_le_mul (by omega) ?_; exact hu2
 have eV : vG x t = upG x t / wdG x := by unfold vG; rw [e1]; exact w64 (by omega) (by omega)
 have eN : (rlL x).num t = upG x t := by rw [rlL_num, b2]
 have eW : (rlL x).w = wdG x := by rw [b1]; rfl
 generalize hV : upG x t / wdG x = V at *
 have eL : wr (vG x t - nextV s 6) = V - nextV s 6 := by rw [eV]; exact w64 (by have := v1.2 (by omega); omega) (by omega)
 have eH : wr (vG x t + witV (nextS s 6) 1 6) = V + witV (nextS s 6) 1 6 := by rw [eV]; exact w64 (by omega) (by omega)
 have lo1 : (gauG x s t).lo = maxI 0 (V - nextV s 6) := by show mxG _ = _; rw [eL]; rfl
 have hi1 : (gauG x s t).hi = V + witV (nextS s 6) 1 6 := eH
 have lo2 : 0 <= (gauG x s t).lo /\ (gauG x s t).lo <= V := by rw [lo1]; unfold maxI; split <;> omega
 refine ⟨rfl, lo2.1, by rw [hi1]; omega, by rw [hi1]; omega, ?_⟩
 unfold Rl.pass
 rw [show (gauG x s t).st = t from rfl, eN, eW]
 have m1 := Int.mul_le_mul_of_nonneg_right lo2.2 (show 0 <= wdG x by omega)
 have m2 := Int.mul_le_mul_of_nonneg_right (show V + 1 <= (gauG x s t).hi by rw [hi1]; omega) (show 0 <= wdG x by omega)
 constructor <;> omega
theorem mkG_good {b : List Int} {ls : List Ln} {n : Int} (hl : ls.length = b.length + 1) (ho : ∀ x ∈ ls, okMk x) (hn : 1 <= n /\ n <= 200) : ∀ (k : Nat) (x : MG) (K : Int), StmB K x.s -> K + 3 * k <= 1000000 -> (∀ g ∈ x.l, goodG b ls g) -> (∀ g ∈ (mkG b ls n k x).l, goodG b ls g) /\ (mkG b ls n k x).l.length <= x.l.length + k
 | 0, x, K, _, _, h => ⟨h, Nat.le_refl _⟩
 | k + 1, x, K, hs, hK, h => by
  have hv := nextV_in hs (by omega) n
  have hv2 := hv.2 hn.1
  have s1 := hs.next (by omega) n
  have s2 := s1.next (by omega) 6
  have s3 := wit_next s2 (by omega) 1 6
  have hx : okMk (gD ls (ptM b (nextV x.s n))) := by
   have := ptK_le (b := b) (t := nextV x.s n) b.length 0
   exact ho _ (gD_mem (by rw [hl]; unfold ptM; omega))
  show (∀ g ∈ (mkG b ls n k (stpG (gD ls (ptM b (nextV x.s n))) (nextS x.s n) (nextV x.s n) x.l)).l, goodG b ls g) /\ (mkG b ls n k (stpG (gD ls (ptM b (nextV x.s n))) (nextS x.s n) (nextV x.s n) x.l)).l.length <= _
  cases hu : (bif decide (upG (gD ls (ptM b (nextV x.s n))) (nextV x.s n) < 0) then true else decide (upG (gD ls (ptM b (nextV x.s n))) (nextV x.s n) > wr (1000 * wdG (gD ls (ptM b (nextV x.s n)))))) with
  | true =>
   have es : stpG (gD ls (ptM b (nextV x.s n))) (nextS x.s n) (nextV x.s n) x.l = ⟨nextS x.s n, x.l⟩ := by unfold stpG; rw [hu]; rfl
   rw [es]
   have := mkG_good hl ho hn k ⟨nextS x.s n, x.l⟩ (K + 1) s1 (by omega) h
   exact ⟨this.1, by have h2 : _ <= x.l.length + k := this.2; omega⟩
  | false =>
   have es : stpG (gD ls (ptM b (nextV x.s n))) (nextS x.s n) (nextV x.s n) x.l = ⟨witS (nextS (nextS x.s n) 6) 1 6, x.l ++ [gauG (gD ls (ptM b (nextV x.s n))) (nextS x.s n) (nextV x.s n)]⟩ := by unfold stpG; rw [hu]; rfl
   rw [es]
   obtain ⟨g1, g2, g3, g4, g5⟩ := gau_good hx ⟨hv.1, by omega⟩ s1 (by omega) hu
   have := mkG_good hl ho hn k ⟨witS (nextS (nextS x.s n) 6) 1 6, x.l ++ [gauG (gD ls (ptM b (nextV x.s n))) (nextS x.s n) (nextV x.s n)]⟩ (K + 1 + 1 + 1) s3 (by omega) (λ g hg => by
    rcases List.mem_append.1 hg with hg | hg
    ·exact h g hg
    ·rw [List.mem_singleton.1 hg]
     exact ⟨by rw [g1]; omega, g2, g3, g4, by rw [g1]; exact g5⟩)
   refine ⟨this.1, ?_⟩
   have h2 : _ <= (x.l ++ [_]).length + k := this.2
   rw [List.length_append, List.length_singleton] at h2; omega
theorem okMk_ok {x : Ln} (h : okMk x) : okL x := by
 obtain ⟨h1, h2, h3, h4⟩ := h
 exact ⟨by omega, by omega, by omega, by omega, by omega, by omega⟩
theorem made_fits {a : MkI} (h : preM a) : Fits (mdG a) (mdR a) /\ (mdG a).length <= a.m.toNat := by
 have hF := mkL_inv h
 obtain ⟨hB, hasc, hbr⟩ := mkB_inv h
 obtain ⟨g1, g2, g3, g4, g5⟩ := G_fin hF
 have hm := h.2
 have hw := witV_in g5 (by omega) (lo := 1) (hi := a.m) (by omega) hm.1 (by omega)
 have hG := mkG_good g3 g4 (n := hiG a) (by rw [hiG_eq hF]; omega) (witV (mL a.s).s 1 a.m).toNat (mG0 a) 16 (wit_next g5 (by omega) 1 a.m) (by omega) (λ g hg => by cases hg)
 obtain ⟨G1, G2⟩ := hG
 have G2 : (mG a).l.length <= 0 + (witV (mL a.s).s 1 a.m).toNat := G2
 by_cases he : (mG a).l.length = 0
 ·have e1 : mdG a = [⟨1, 1, 1⟩] := by unfold mdG; rw [decide_eq_true he]; rfl
  have e2 : mdR a = ⟨[], [⟨0, 0, 1, 1⟩]⟩ := by unfold mdR; rw [decide_eq_true he]; rfl
  rw [e1, e2]
  refine ⟨⟨Nat.le_refl _, λ g hg => ?_, λ g hg => ?_, .nil, λ x hx => (by cases hx), Nat.zero_le _, rfl, λ x hx => ?_, λ g hg => ?_⟩, by show 1 <= _; omega⟩
  ·rw [List.mem_singleton.1 hg]; unfold okG; decide
  ·rw [List.mem_singleton.1 hg]; decide
  ·have := List.mem_singleton.1 hx; subst this; unfold okL; decide
  ·rw [List.mem_singleton.1 hg]
   show _ /\ _
   decide
 ·have e1 : mdG a = (mG a).l := by unfold mdG; rw [decide_eq_false he]; rfl
  have e2 : mdR a = ⟨(mB a.s).b, (mL a.s).l⟩ := by unfold mdR; rw [decide_eq_false he]; rfl
  rw [e1, e2]
  refine ⟨⟨by omega, λ g hg => ?_, λ g hg => ?_, hasc, hbr, by show (mB a.s).b.length <= 2; omega, g3, λ x hx => okMk_ok (g4 x hx), λ g hg => ?_⟩, by omega⟩
  ·obtain ⟨a1, a2, a3, a4, a5⟩ := G1 g hg
   unfold okG; omega
  ·obtain ⟨a1, a2, a3, a4, a5⟩ := G1 g hg; omega
  ·obtain ⟨a1, a2, a3, a4, a5⟩ := G1 g hg
   rw [ptM_eq hasc] at a5; exact a5
end Go.Bal
