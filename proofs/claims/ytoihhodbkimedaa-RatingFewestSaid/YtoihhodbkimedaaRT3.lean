/- Package rating: what is made of numbers (no program in sight). -/
import Derived.Test.YtoihhodbkimedaaRT2
import Derived.Test.YtoihhodbkimedaaRatW
set_option linter.unusedVariables false
set_option linter.unusedSimpArgs false
namespace Go.Bal
open Go Go.Sym Go.Proofs
structure Fits (l : List Gau) (r : Rtg) : Prop where
 len : 1 <= l.length
 ok : ∀ g ∈ l, XH g
 small : ∀ g ∈ l, g.st <= 199 /\ g.hi <= 2000
 asc : asc r.b
 brk : ∀ x ∈ r.b, 1 <= x /\ x <= 120
 two : r.b.length <= 2
 lines : r.l.length = r.b.length + 1
 rise : ∀ x ∈ r.l, NJ x
 pass : ∀ g ∈ l, (OJ (gD r.l (Tl r.b g.st))).pass g
theorem ARC {b : List Int} {t : Int} : ∀ (n k : Nat), (∀ j, k <= j -> j < ptK b t n k -> gD b j <= t) /\ (ptK b t n k < k + n -> ¬gD b (ptK b t n k) <= t)
 | 0, k => ⟨λ j h1 h2 => by have : j < k := h2; omega, λ h => by have : k < k + 0 := h; omega⟩
 | n + 1, k => by
  unfold ptK
  by_cases hc : gD b k <= t
  ·rw [decide_eq_true hc]
   obtain ⟨h1, h2⟩ := ARC (b := b) (t := t) n (k + 1)
   refine ⟨λ j a1 a2 => ?_, λ h => h2 (by show ptK b t n (k + 1) < _; have : ptK b t n (k + 1) < k + (n + 1) := h; omega)⟩
   by_cases hj : j = k
   ·rw [hj]; exact hc
   ·exact h1 j (by omega) a2
  ·rw [decide_eq_false hc]
   exact ⟨λ j a1 a2 => by have : j < k := a2; omega, λ _ => hc⟩
theorem BNE {b : List Int} {t : Int} (hb : asc b) : ptM b t = Tl b t := by
 obtain ⟨h1, h2⟩ := ARC (b := b) (t := t) b.length 0
 have hle := AXI (b := b) (t := t) b.length 0
 symm
 unfold Tl ptM
 refine X9 (by omega) (λ j hj => decide_eq_true (h1 j (Nat.zero_le _) hj)) (λ j hj hj2 => decide_eq_false ?_)
 have h3 := h2 (by omega)
 intro hc
 by_cases he : ptK b t b.length 0 = j
 ·exact h3 (he ▸ hc)
 ·have := We hb (show ptK b t b.length 0 < j by omega) hj2
  omega
theorem AZN : ∀ (n : Nat) (x : MB) (K : Int), StmB K x.s -> K + n <= 1000000 -> asc x.b -> (∀ y ∈ x.b, 5 <= y /\ y <= x.a) -> 0 <= x.a /\ x.a + 60 * n <= 100000 -> asc (mkB n x).b /\ (∀ y ∈ (mkB n x).b, 5 <= y /\ y <= (mkB n x).a) /\ (mkB n x).b.length = x.b.length + n
 | 0, x, K, _, _, h1, h2, h3 => ⟨h1, h2, rfl⟩
 | n + 1, x, K, hs, hK, h1, h2, h3 => by
  have hw := bT hs (by omega) (lo := 5) (hi := 60) (by omega) (by omega) (by omega)
  have ha : wr (x.a + HR x.s 5 60) = x.a + HR x.s 5 60 := LS (by omega) (by omega)
  have := AZN n (stpB x) (K + 1) (VO hs (by omega) 5 60) (by omega) (by
   show asc (x.b ++ [wr _]); rw [ha]
   refine List.pairwise_append.2 ⟨h1, List.pairwise_singleton _ _, λ y hy z hz => ?_⟩
   rw [List.mem_singleton.1 hz]; have := h2 y hy; omega) (λ y hy => by
   show 5 <= y /\ y <= wr _
   rw [ha]
   have hy : y ∈ x.b ++ [wr (x.a + HR x.s 5 60)] := hy
   rw [ha] at hy
   rcases List.mem_append.1 hy with hy | hy
   ·have := h2 y hy; omega
   ·rw [List.mem_singleton.1 hy]; omega) (by show 0 <= wr _ /\ wr _ + _ <= _; rw [ha]; omega)
  refine ⟨this.1, this.2.1, ?_⟩
  show (mkB n (stpB x)).b.length = _
  rw [this.2.2]
  show (x.b ++ [_]).length + n = _
  rw [List.length_append, List.length_singleton]; omega
theorem BJJ {a : MkI} (h : preM a) : pU a ⟨0, mB a.s⟩ /\ asc (mB a.s).b /\ ∀ y ∈ (mB a.s).b, 1 <= y /\ y <= 120 := by
 obtain ⟨hs, hm1, hm2⟩ := h
 have hn := NF hs (by omega) 3
 have hn2 := hn.2 (by omega)
 have i0 : pU a ⟨(AV a.s 3).toNat, ⟨BG a.s 3, 0, []⟩⟩ := ⟨by show (AV a.s 3).toNat <= 2; omega, (hs.next (by omega) 3).mono (by show _ <= 3 - (((AV a.s 3).toNat : Nat) : Int); omega), rfl, by show ((0 : Nat) : Int) + ((AV a.s 3).toNat : Nat) <= 2; omega, Int.le_refl _, by show 0 <= 60 * (2 - (((AV a.s 3).toNat : Nat) : Int)); omega⟩
 have go : ∀ (n : Nat) (y : KB), y.k = n -> pU a y -> pU a ⟨0, mB a.s⟩ := λ n => by
  induction n with
  | zero => exact λ y h1 h2 => (BOL h2 (by omega)).2
  | succ n ih => exact λ y h1 h2 => ih _ (by show y.k - 1 = n; omega) (BFW h2 (by omega))
 have hf := go _ _ rfl i0
 have hg := AZN (AV a.s 3).toNat ⟨BG a.s 3, 0, []⟩ 1 (hs.next (by omega) 3) (by omega) .nil (λ y hy => by cases hy) (by show (0 : Int) <= 0 /\ (0 : Int) + _ <= _; omega)
 refine ⟨hf, hg.1, λ y hy => ?_⟩
 have h2 := hg.2.1 y hy
 have h3 : (mB a.s).a <= 60 * (2 - ((0 : Nat) : Int)) := hf.2.2.2.2.2
 have h4 : y <= (mB a.s).a := h2.2
 omega
theorem BWR {a : MkI} (h : preM a) : fin9 a := by
 obtain ⟨hB, _⟩ := BJJ h
 have i0 : inv9 a ⟨0, ⟨(mB a.s).s, []⟩⟩ := ⟨hB, Nat.zero_le _, (show StmB (3 - ((0 : Nat) : Int)) (mB a.s).s from hB.2.1).mono (by show _ <= 3 + 4 * ((0 : Nat) : Int); omega), rfl, rfl, λ z hz => by cases hz⟩
 have go : ∀ (n : Nat) (y : KL), (mB a.s).b.length + 1 - y.k = n -> inv9 a y -> fin9 a := λ n => by
  induction n with
  | zero => exact λ y h1 h2 => (CAV h2 (by have := h2.2.1; omega)).2
  | succ n ih => exact λ y h1 h2 => ih _ (by show (mB a.s).b.length + 1 - (y.k + 1) = n; omega) (BEM h2 (by omega))
 exact go _ _ rfl i0
def BQG (b : List Int) (ls : List Ln) (g : Gau) : Prop := (0 <= g.st /\ g.st <= 199) /\ 0 <= g.lo /\ g.lo <= g.hi /\ g.hi <= 2000 /\ (OJ (gD ls (ptM b g.st))).pass g
theorem BTY {x : Ln} {s : Stm} {t K : Int} (hx : okMk x) (ht : 0 <= t /\ t <= 199) (hs : StmB K s) (hK : K <= 1000000) (hu : (bif decide (pR x t < 0) then true else decide (pR x t > wr (1000 * xD x))) = false) : (oM x s t).st = t /\ 0 <= (oM x s t).lo /\ (oM x s t).lo <= (oM x s t).hi /\ (oM x s t).hi <= 2000 /\ (OJ x).pass (oM x s t) := by
 obtain ⟨b1, b2, b3, b4, b5⟩ := ANX hx ht
 have v1 := NF hs (by omega) 6
 have v2 := bT (hs.next (by omega) 6) (by omega) (lo := 1) (hi := 6) (by omega) (by omega) (by omega)
 have hw : 1 <= xD x := by rw [b1]; exact hx.2.1.1
 have hu1 : ¬pR x t < 0 := by
  intro hc; rw [decide_eq_true hc] at hu; cases hu
 rw [decide_eq_false hu1, b3] at hu
 have hu2 : pR x t <= 1000 * xD x := by have := of_decide_eq_false (show decide (pR x t > 1000 * xD x) = false from hu); omega
 have e1 : (pR x t).tdiv (xD x) = pR x t / xD x := Int.tdiv_eq_ediv_of_nonneg (by omega)
 have q1 : 0 <= pR x t / xD x := Int.ediv_nonneg (by omega) (by omega)
 have q2 : pR x t / xD x * xD x <= pR x t := Int.ediv_mul_le _ (by omega)
 have q3 : pR x t < (pR x t / xD x + 1) * xD x := Int.lt_ediv_add_one_mul_self _ (by omega)
 have q4 : pR x t / xD x <= 1000 := by
  refine Int.ediv_le_of_le_mul (by omega) ?_; exact hu2
 have eV : vG x t = pR x t / xD x := by unfold vG; rw [e1]; exact LS (by omega) (by omega)
 have eN : (OJ x).num t = pR x t := by rw [ALD, b2]
 have eW : (OJ x).w = xD x := by rw [b1]; rfl
 generalize hV : pR x t / xD x = V at *
 have eL : wr (vG x t - AV s 6) = V - AV s 6 := by rw [eV]; exact LS (by have := v1.2 (by omega); omega) (by omega)
 have eH : wr (vG x t + HR (BG s 6) 1 6) = V + HR (BG s 6) 1 6 := by rw [eV]; exact LS (by omega) (by omega)
 have lo1 : (oM x s t).lo = sK 0 (V - AV s 6) := by show mxG _ = _; rw [eL]; rfl
 have hi1 : (oM x s t).hi = V + HR (BG s 6) 1 6 := eH
 have lo2 : 0 <= (oM x s t).lo /\ (oM x s t).lo <= V := by rw [lo1]; unfold sK; split <;> omega
 refine ⟨rfl, lo2.1, by rw [hi1]; omega, by rw [hi1]; omega, ?_⟩
 unfold Rl.pass
 rw [show (oM x s t).st = t from rfl, eN, eW]
 have m1 := Int.mul_le_mul_of_nonneg_right lo2.2 (show 0 <= xD x by omega)
 have m2 := Int.mul_le_mul_of_nonneg_right (show V + 1 <= (oM x s t).hi by rw [hi1]; omega) (show 0 <= xD x by omega)
 constructor <;> omega
theorem AOV {b : List Int} {ls : List Ln} {n : Int} (hl : ls.length = b.length + 1) (ho : ∀ x ∈ ls, okMk x) (hn : 1 <= n /\ n <= 200) : ∀ (k : Nat) (x : MG) (K : Int), StmB K x.s -> K + 3 * k <= 1000000 -> (∀ g ∈ x.l, BQG b ls g) -> (∀ g ∈ (mkG b ls n k x).l, BQG b ls g) /\ (mkG b ls n k x).l.length <= x.l.length + k
 | 0, x, K, _, _, h => ⟨h, Nat.le_refl _⟩
 | k + 1, x, K, hs, hK, h => by
  have hv := NF hs (by omega) n
  have hv2 := hv.2 hn.1
  have s1 := hs.next (by omega) n
  have s2 := s1.next (by omega) 6
  have s3 := VO s2 (by omega) 1 6
  have hx : okMk (gD ls (ptM b (AV x.s n))) := by
   have := AXI (b := b) (t := AV x.s n) b.length 0
   exact ho _ (DU (by rw [hl]; unfold ptM; omega))
  show (∀ g ∈ (mkG b ls n k (Mu (gD ls (ptM b (AV x.s n))) (BG x.s n) (AV x.s n) x.l)).l, BQG b ls g) /\ (mkG b ls n k (Mu (gD ls (ptM b (AV x.s n))) (BG x.s n) (AV x.s n) x.l)).l.length <= _
  cases hu : (bif decide (pR (gD ls (ptM b (AV x.s n))) (AV x.s n) < 0) then true else decide (pR (gD ls (ptM b (AV x.s n))) (AV x.s n) > wr (1000 * xD (gD ls (ptM b (AV x.s n)))))) with
  | true =>
   have es : Mu (gD ls (ptM b (AV x.s n))) (BG x.s n) (AV x.s n) x.l = ⟨BG x.s n, x.l⟩ := by unfold Mu; rw [hu]; rfl
   rw [es]
   have := AOV hl ho hn k ⟨BG x.s n, x.l⟩ (K + 1) s1 (by omega) h
   exact ⟨this.1, by have h2 : _ <= x.l.length + k := this.2; omega⟩
  | false =>
   have es : Mu (gD ls (ptM b (AV x.s n))) (BG x.s n) (AV x.s n) x.l = ⟨bK (BG (BG x.s n) 6) 1 6, x.l ++ [oM (gD ls (ptM b (AV x.s n))) (BG x.s n) (AV x.s n)]⟩ := by unfold Mu; rw [hu]; rfl
   rw [es]
   obtain ⟨g1, g2, g3, g4, g5⟩ := BTY hx ⟨hv.1, by omega⟩ s1 (by omega) hu
   have := AOV hl ho hn k ⟨bK (BG (BG x.s n) 6) 1 6, x.l ++ [oM (gD ls (ptM b (AV x.s n))) (BG x.s n) (AV x.s n)]⟩ (K + 1 + 1 + 1) s3 (by omega) (λ g hg => by
    rcases List.mem_append.1 hg with hg | hg
    ·exact h g hg
    ·rw [List.mem_singleton.1 hg]
     exact ⟨by rw [g1]; omega, g2, g3, g4, by rw [g1]; exact g5⟩)
   refine ⟨this.1, ?_⟩
   have h2 : _ <= (x.l ++ [_]).length + k := this.2
   rw [List.length_append, List.length_singleton] at h2; omega
theorem BWU {x : Ln} (h : okMk x) : NJ x := by
 obtain ⟨h1, h2, h3, h4⟩ := h
 exact ⟨by omega, by omega, by omega, by omega, by omega, by omega⟩
theorem BKT {a : MkI} (h : preM a) : Fits (iL a) (mdR a) /\ (iL a).length <= a.m.toNat := by
 have hF := BWR h
 obtain ⟨hB, hasc, hbr⟩ := BJJ h
 obtain ⟨g1, g2, g3, g4, g5⟩ := AUI hF
 have hm := h.2
 have hw := bT g5 (by omega) (lo := 1) (hi := a.m) (by omega) hm.1 (by omega)
 have hG := AOV g3 g4 (n := hiG a) (by rw [BFG hF]; omega) (HR (mL a.s).s 1 a.m).toNat (mG0 a) 16 (VO g5 (by omega) 1 a.m) (by omega) (λ g hg => by cases hg)
 obtain ⟨G1, G2⟩ := hG
 have G2 : (mG a).l.length <= 0 + (HR (mL a.s).s 1 a.m).toNat := G2
 by_cases he : (mG a).l.length = 0
 ·have e1 : iL a = [⟨1, 1, 1⟩] := by unfold iL; rw [decide_eq_true he]; rfl
  have e2 : mdR a = ⟨[], [⟨0, 0, 1, 1⟩]⟩ := by unfold mdR; rw [decide_eq_true he]; rfl
  rw [e1, e2]
  refine ⟨⟨Nat.le_refl _, λ g hg => ?_, λ g hg => ?_, .nil, λ x hx => (by cases hx), Nat.zero_le _, rfl, λ x hx => ?_, λ g hg => ?_⟩, by show 1 <= _; omega⟩
  ·rw [List.mem_singleton.1 hg]; unfold XH; decide
  ·rw [List.mem_singleton.1 hg]; decide
  ·have := List.mem_singleton.1 hx; subst this; unfold NJ; decide
  ·rw [List.mem_singleton.1 hg]
   show _ /\ _
   decide
 ·have e1 : iL a = (mG a).l := by unfold iL; rw [decide_eq_false he]; rfl
  have e2 : mdR a = ⟨(mB a.s).b, (mL a.s).l⟩ := by unfold mdR; rw [decide_eq_false he]; rfl
  rw [e1, e2]
  refine ⟨⟨by omega, λ g hg => ?_, λ g hg => ?_, hasc, hbr, by show (mB a.s).b.length <= 2; omega, g3, λ x hx => BWU (g4 x hx), λ g hg => ?_⟩, by omega⟩
  ·obtain ⟨a1, a2, a3, a4, a5⟩ := G1 g hg
   unfold XH; omega
  ·obtain ⟨a1, a2, a3, a4, a5⟩ := G1 g hg; omega
  ·obtain ⟨a1, a2, a3, a4, a5⟩ := G1 g hg
   rw [BNE hasc] at a5; exact a5
end Go.Bal

namespace Go.Bal
open Go Go.Sym Go.Proofs
theorem BCL : ∀ (l : List Int) (x : Int), 0 <= x /\ x <= 2000 -> asc l -> (∀ y ∈ l, x < y /\ y <= 2000) -> brk x l = 0
 | [], _, _, _, _ => rfl
 | z :: l, x, hx, ha, h => by
  have hz := h z (List.mem_cons_self ..)
  obtain ⟨h1, h2⟩ := List.pairwise_cons.1 ha
  unfold brk
  have : Cb z (wr (x + 1)) 2000 = true := by
   unfold Cb wr
   rw [LS (n := x + 1) (by omega) (by omega)]
   simp only [Bool.and_eq_true, decide_eq_true_eq]; omega
  rw [this]
  exact BCL l z (by omega) h2 (λ y hy => ⟨h1 y hy, (h y (List.mem_cons_of_mem _ hy)).2⟩)
theorem ANW {l : List Gau} (h : 1 <= l.length /\ l.length <= 24) (ho : ∀ g ∈ l, XH g) : AZ l = 0 := by
 unfold AZ
 have e1 : Cb l.length 1 24 = true := by unfold Cb; simp only [Bool.and_eq_true, decide_eq_true_eq]; omega
 have e2 : l.all riG = true := List.all_eq_true.2 λ g hg => by
  obtain ⟨h1, h2, h3, h4, h5⟩ := ho g hg
  unfold riG Cb; simp only [Bool.and_eq_true, decide_eq_true_eq]; omega
 rw [e1, e2]; rfl
theorem AUZ {b : List Int} (h1 : asc b) (h2 : ∀ x ∈ b, 1 <= x /\ x <= 2000) (h3 : b.length <= 24) : Kt b = 0 := by
 unfold Kt
 rw [if_neg (by omega)]
 exact BCL b 0 (by omega) h1 (λ y hy => by have := h2 y hy; omega)
theorem BKM {l : List Gau} {b : List Int} (h : 1 <= l.length /\ l.length <= 24) (ho : ∀ g ∈ l, XH g) (h1 : asc b) (h2 : ∀ x ∈ b, 1 <= x /\ x <= 2000) (h3 : b.length <= 24) : DQ ⟨l, b⟩ = 0 := by
 unfold DQ
 rw [ANW h ho]
 exact AUZ h1 h2 h3
def NM (l : List Gau) (b : List Int) (k : Int) : List Gau := Jq (PE ⟨l, b⟩) k
theorem ZS {l : List Gau} {b : List Int} {k : Int} {g : Gau} : g ∈ NM l b k ↔ g ∈ l /\ (Tl b g.st : Int) = k := by
 unfold NM Jq PE
 rw [List.mem_filter, beq_iff_eq]
theorem mX {l : List Gau} {b : List Int} {k : Int} (ho : ∀ g ∈ l, XH g) : ∀ g ∈ NM l b k, XH g := λ g hg => ho g (ZS.1 hg).1
theorem tK (b : List Int) (t : Int) : Tl b t <= b.length := List.countP_le_length
structure Thru (l : List Gau) (b : List Int) : Prop where
 len : 1 <= l.length /\ l.length <= 24
 ok : ∀ g ∈ l, XH g
 asc : asc b
 brk : ∀ x ∈ b, 1 <= x /\ x <= 2000
 few : b.length <= 24
 thru : ∀ k : Nat, k <= b.length -> ∃ x, NJ x /\ (OJ x).passes (NM l b k)
theorem Fits.thru {l : List Gau} {r : Rtg} (h : Fits l r) (h2 : l.length <= 24) : Thru l r.b := ⟨⟨h.len, h2⟩, h.ok, h.asc, λ x hx => by have := h.brk x hx; omega, by have := h.two; omega, λ k hk => ⟨gD r.l k, h.rise _ (DU (by rw [h.lines]; omega)), λ g hg => by
 obtain ⟨h3, h4⟩ := ZS.1 hg
 have := h.pass g h3
 rw [show Tl r.b g.st = k by omega] at this; exact this⟩⟩
theorem Thru.open {l : List Gau} {b : List Int} (h : Thru l b) : DQ ⟨l, b⟩ = 0 := BKM h.len h.ok h.asc h.brk h.few
theorem Thru.bk {l : List Gau} {b : List Int} (h : Thru l b) : XS l b := AAZ h.open
theorem Thru.ne {l : List Gau} {b : List Int} (h : Thru l b) {k : Nat} (hk : k <= b.length) {t : Int} (ht : 0 <= t /\ t <= 2000) : UD (NM l b k) t ≠ [] := by
 obtain ⟨x, h1, h2⟩ := h.thru k hk
 exact AXO (mX h.ok) ht (LB h1) h2
theorem Thru.flow {l : List Gau} {b : List Int} (h : Thru l b) {t : Int} (ht : 0 <= t /\ t <= 2000) : Lp ⟨l, b, t⟩ = 0 /\ Ez ⟨l, b, t⟩ = rF (NM l b (Tl b t)) t := by
 have hne := h.ne (tK b t) ht
 have e : Lp ⟨l, b, t⟩ = 0 := by
  unfold Lp
  rw [show DQ (gbt ⟨l, b, t⟩) = 0 from h.open, show inT ⟨l, b, t⟩ = true by unfold inT Cb; simpa using ht, decide_eq_false (show ¬(lB (bkT ⟨l, b, t⟩)).length = 0 from λ hc => hne (List.eq_nil_of_length_eq_zero hc))]
  rfl
 refine ⟨e, ?_⟩
 unfold Ez; rw [e]; rfl
theorem Thru.in {l : List Gau} {b : List Int} (h : Thru l b) {k : Nat} (hk : k <= b.length) {t : Int} (ht : 0 <= t /\ t <= 2000) : yK (rF (NM l b k) t).lo /\ yK (rF (NM l b k) t).hi /\ Si (rF (NM l b k) t).lo (rF (NM l b k) t).hi := CEK (mX h.ok) ht (h.ne hk ht)
theorem BVT {a b : Rt} (ha : yK a) (hb : yK b) : belM a b = false ↔ Si b a := by
 unfold belM Si; rw [vT ha hb, vT hb ha, decide_eq_false_iff_not]; omega
theorem CEA {b : Bnd} (h1 : yK b.lo) (h2 : yK b.hi) (h3 : Si b.lo b.hi) : sndM b = true := by
 have fs : ∀ r : Rt, yK r -> fsM r = true := λ r hr => by
  obtain ⟨⟨a1, a2⟩, a3, a4⟩ := hr
  have e : wr (200000 * r.d) = 200000 * r.d := LS (by omega) (by omega)
  unfold fsM; rw [e, decide_eq_false (by omega), decide_eq_false (by omega), decide_eq_false (by omega), decide_eq_false (by omega)]; rfl
 unfold sndM
 rw [fs _ h1, fs _ h2, (BVT h2 h1).2 h3]; rfl
theorem ARN {pr : Int -> Bool} : ∀ (n : Nat) (lo hi : Int), lo <= hi -> (hi - lo).toNat <= n -> (∀ m m' : Int, lo < m -> m <= m' -> m' <= hi -> pr m' = true -> pr m = true) -> (∀ m, lo < m -> m <= upL pr n lo hi -> pr m = true) /\ ∀ m, upL pr n lo hi < m -> m <= hi -> pr m = false
 | 0, lo, hi, h, hn, _ => ⟨λ m h1 h2 => by have : m <= lo := h2; omega, λ m h1 h2 => by have : lo < m := h1; omega⟩
 | n + 1, lo, hi, h, hn, hm => by
  unfold upL
  by_cases hl : lo < hi
  ·obtain ⟨h3, h4⟩ := P4 hl
   rw [decide_eq_true hl]
   generalize hM : lo + (hi - lo + 1).tdiv 2 = M at *
   cases hp : pr M with
   | true =>
    obtain ⟨r1, r2⟩ := ARN n M hi h4 (by omega) (λ m m' a b c d => hm m m' (by omega) b c d)
    refine ⟨λ m a1 a2 => ?_, r2⟩
    by_cases hc : m <= M
    ·exact hm m M a1 hc h4 hp
    ·exact r1 m (by omega) a2
   | false =>
    obtain ⟨r1, r2⟩ := ARN n lo (M - 1) (by omega) (by omega) (λ m m' a b c d => hm m m' a b (by omega) d)
    refine ⟨r1, λ m a1 a2 => ?_⟩
    by_cases hc : m <= M - 1
    ·exact r2 m a1 hc
    ·cases hq : pr m with
     | false => rfl
     | true =>
      have := hm M m h3 (by omega) a2 hq
      rw [this] at hp; cases hp
  ·rw [decide_eq_false hl]
   exact ⟨λ m h1 h2 => by have : m <= lo := h2; omega, λ m h1 h2 => by have : lo < m := h1; omega⟩
def qR (q : Int) : Rt := ⟨q, 1⟩
theorem BZS {q : Int} (h : 0 <= q /\ q <= 200000) : yK (qR q) := ⟨⟨Int.one_pos, by show (1 : Int) <= 2000; omega⟩, h.1, by show q <= 200000 * 1; omega⟩
def pY (b : List Int) (k : Nat) : Span := DI (PE ⟨[], b⟩) k
theorem Thru.span {l : List Gau} {b : List Int} (h : Thru l b) {k : Nat} (hk : k <= b.length) : 0 <= (pY b k).lo /\ (pY b k).lo <= (pY b k).hi /\ (pY b k).hi <= 2000 /\ ∀ m : Int, (pY b k).lo <= m -> m <= (pY b k).hi -> Tl b m = k := by
 obtain ⟨h1, h2, h3, h4⟩ := oE (w := PE ⟨l, b⟩) (k := k) h.bk (by omega) (Int.ofNat_le.2 hk)
 exact ⟨h1, h2, h3, λ m a c => Int.ofNat.inj (h4 m a c)⟩
theorem Thru.up {l : List Gau} {b : List Int} (h : Thru l b) {q : Int} (hq : 0 <= q /\ q <= 200000) {k : Nat} (hk : k <= b.length) (v : BnF -> Bool) (c : Bnd -> Prop) (hv : ∀ t, (pY b k).lo <= t -> t <= (pY b k).hi -> (v ⟨rF (NM l b k) t, qR q⟩ = true ↔ c (rF (NM l b k) t))) (hm : ∀ t u, (pY b k).lo <= t -> t <= u -> u <= (pY b k).hi -> c (rF (NM l b k) u) -> c (rF (NM l b k) t)) : ((pY b k).lo - 1 <= upM v ⟨PE ⟨l, b⟩, k, qR q⟩ /\ upM v ⟨PE ⟨l, b⟩, k, qR q⟩ <= (pY b k).hi) /\ (∀ t, (pY b k).lo <= t -> t <= upM v ⟨PE ⟨l, b⟩, k, qR q⟩ -> c (rF (NM l b k) t)) /\ ∀ t, upM v ⟨PE ⟨l, b⟩, k, qR q⟩ < t -> t <= (pY b k).hi -> ¬c (rF (NM l b k) t) := by
 obtain ⟨s1, s2, s3, s4⟩ := h.span hk
 have hi := BQC (v := v) (a := ⟨PE ⟨l, b⟩, k, qR q⟩) h.bk (Int.natCast_nonneg _) (Int.ofNat_le.2 hk)
 have hp : ∀ t, (pY b k).lo <= t -> t <= (pY b k).hi -> (upP v ⟨PE ⟨l, b⟩, k, qR q⟩ t = true ↔ c (rF (NM l b k) t)) := λ t a d => by
  have e : upP v ⟨PE ⟨l, b⟩, k, qR q⟩ t = v ⟨rF (NM l b (Tl b t)) t, qR q⟩ := rfl
  rw [e, s4 t a d]; exact hv t a d
 have hs := ARN (pr := upP v ⟨PE ⟨l, b⟩, k, qR q⟩) 3000 ((pY b k).lo - 1) (pY b k).hi (by omega) (by omega) (λ m m' a d e f => (hp m (by omega) (by omega)).2 (hm m m' (by omega) d e ((hp m' (by omega) e).1 f)))
 have ho : upM v ⟨PE ⟨l, b⟩, k, qR q⟩ = upL (upP v ⟨PE ⟨l, b⟩, k, qR q⟩) 3000 ((pY b k).lo - 1) (pY b k).hi := rfl
 rw [<- ho] at hs
 have i1 : (pY b k).lo - 1 <= upM v ⟨PE ⟨l, b⟩, k, qR q⟩ := hi.1
 have i2 : upM v ⟨PE ⟨l, b⟩, k, qR q⟩ <= (pY b k).hi := hi.2.1
 refine ⟨⟨i1, i2⟩, λ t a d => (hp t a (by omega)).1 (hs.1 t (by omega) d), λ t a d hc => ?_⟩
 have := hs.2 t a d
 rw [(hp t (by omega) d).2 hc] at this; cases this
theorem BLU {a b : Rt} : ¬Si a b ↔ b.n * a.d < a.n * b.d := by unfold Si; omega
theorem Thru.first {l : List Gau} {b : List Int} (h : Thru l b) {q : Int} (hq : 0 <= q /\ q <= 200000) {k : Nat} (hk : k <= b.length) : ((pY b k).lo <= stF ⟨⟨l, b⟩, q⟩ k /\ stF ⟨⟨l, b⟩, q⟩ k <= (pY b k).hi + 1) /\ (∀ t, (pY b k).lo <= t -> t < stF ⟨⟨l, b⟩, q⟩ k -> ¬Si (qR q) (rF (NM l b k) t).hi) /\ ∀ t, stF ⟨⟨l, b⟩, q⟩ k <= t -> t <= (pY b k).hi -> Si (qR q) (rF (NM l b k) t).hi := by
 obtain ⟨s1, s2, s3, s4⟩ := h.span hk
 have oq := BZS hq
 obtain ⟨⟨r0, r1⟩, r2, r3⟩ := h.up hq hk xQ (λ B => ¬Si (qR q) B.hi) (λ t a d => by
  have := (h.in hk (t := t) (by omega)).2.1
  unfold xQ; rw [decide_eq_true_eq, AVN this oq, BLU]) (λ t u a d e hc h2 => hc (by
  have h1 := (h.in hk (t := t) (by omega)).2.1
  have h3 := (h.in hk (t := u) (by omega)).2.1
  have := (AYV (mX h.ok) (show 0 <= t by omega) d (by omega) (h.ne hk (t := t) (by omega))).2
  exact OI (Int.le_of_lt oq.1.1) h1.1.1 (Int.le_of_lt h3.1.1) h2 this))
 have e : stF ⟨⟨l, b⟩, q⟩ k = upM xQ ⟨PE ⟨l, b⟩, k, qR q⟩ + 1 := rfl
 rw [e]
 exact ⟨⟨by omega, by omega⟩, λ t a d => r2 t a (by omega), λ t a d => Classical.byContradiction λ hc => r3 t (by omega) d hc⟩
theorem Thru.last {l : List Gau} {b : List Int} (h : Thru l b) {q : Int} (hq : 0 <= q /\ q <= 200000) {k : Nat} (hk : k <= b.length) : ((pY b k).lo - 1 <= stL ⟨⟨l, b⟩, q⟩ k /\ stL ⟨⟨l, b⟩, q⟩ k <= (pY b k).hi) /\ (∀ t, (pY b k).lo <= t -> t <= stL ⟨⟨l, b⟩, q⟩ k -> Si (rF (NM l b k) t).lo (qR q)) /\ ∀ t, stL ⟨⟨l, b⟩, q⟩ k < t -> t <= (pY b k).hi -> ¬Si (rF (NM l b k) t).lo (qR q) := by
 obtain ⟨s1, s2, s3, s4⟩ := h.span hk
 have oq := BZS hq
 exact h.up hq hk W9 (λ B => Si B.lo (qR q)) (λ t a d => by
  have := (h.in hk (t := t) (by omega)).1
  unfold W9; rw [decide_eq_true_eq]
  show rE (rF (NM l b k) t).lo (qR q) <= 0 ↔ _
  have := AVD this oq
  unfold Si; omega) (λ t u a d e hc => by
  have h1 := (h.in hk (t := t) (by omega)).1
  have h3 := (h.in hk (t := u) (by omega)).1
  have := (AYV (mX h.ok) (show 0 <= t by omega) d (by omega) (h.ne hk (t := t) (by omega))).1
  exact OI (Int.le_of_lt h1.1.1) h3.1.1 (Int.le_of_lt oq.1.1) this hc)
theorem BSX (b : List Int) (k : Nat) : (pY b k).lo = if 0 < k then gD b (k - 1) else 0 := by
 show (bif decide ((k : Int) > 0) then gD b ((k : Int) - 1).toNat else 0) = _
 by_cases h0 : 0 < k
 ·rw [decide_eq_true (show (k : Int) > 0 by omega), if_pos h0, show ((k : Int) - 1).toNat = k - 1 by omega]; rfl
 ·rw [decide_eq_false (show ¬(k : Int) > 0 by omega), if_neg h0]; rfl
theorem BSG {b : List Int} (hb : ∀ x ∈ b, 1 <= x /\ x <= 2000) (k : Nat) : (pY b k).hi = if k < b.length then gD b k - 1 else 2000 := by
 show (bif decide ((k : Int) < b.length) then wr (gD b (k : Int).toNat - 1) else 2000) = _
 by_cases h0 : k < b.length
 ·have := hb _ (DU h0)
  rw [decide_eq_true (show (k : Int) < b.length by omega), if_pos h0, Int.toNat_natCast]
  unfold wr; rw [LS (by omega) (by omega)]; rfl
 ·rw [decide_eq_false (show ¬(k : Int) < b.length by omega), if_neg h0]; rfl
theorem CCZ {b : List Int} {t : Int} (hb : asc b) : (∀ j, j < Tl b t -> gD b j <= t) /\ ∀ j, Tl b t <= j -> j < b.length -> t < gD b j := by
 have h := ARC (b := b) (t := t) b.length 0
 have e : ptK b t b.length 0 = Tl b t := BNE hb
 rw [e] at h
 refine ⟨λ j hj => h.1 j (Nat.zero_le _) hj, λ j hj hj2 => ?_⟩
 have h3 := h.2 (by omega)
 by_cases he : Tl b t = j
 ·rw [he] at h3; omega
 ·have := We hb (show Tl b t < j by omega) hj2; omega
theorem Thru.at {l : List Gau} {b : List Int} (h : Thru l b) {t : Int} (ht : 0 <= t /\ t <= 2000) : (pY b (Tl b t)).lo <= t /\ t <= (pY b (Tl b t)).hi := by
 obtain ⟨h1, h2⟩ := CCZ (t := t) h.asc
 rw [BSX, BSG h.brk]
 constructor
 ·split
  ·exact h1 _ (by omega)
  ·exact ht.1
 ·split
  ·rename_i hl
   have := h2 _ (Nat.le_refl _) hl; omega
  ·exact ht.2
theorem Thru.next {l : List Gau} {b : List Int} (h : Thru l b) {i j : Nat} (hij : i < j) (hj : j <= b.length) : (pY b i).hi < (pY b j).lo := by
 rw [BSX, BSG h.brk, if_pos (by omega), if_pos (by omega)]
 by_cases he : i = j - 1
 ·rw [he]; omega
 ·have := We h.asc (show i < j - 1 by omega) (by omega); omega
end Go.Bal
