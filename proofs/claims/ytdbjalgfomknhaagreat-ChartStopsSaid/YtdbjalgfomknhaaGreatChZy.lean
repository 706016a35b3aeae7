/- Package chart, with the reference: the fewest stops by parts are those that are found (no program in sight). -/
import Derived.Test.YtdbjalgfomknhaaGreatChZm0
import Derived.Test.YtdbjalgfomknhaaGreatChZw
import Derived.Test.YtdbjalgfomknhaaGreatChZm
set_option linter.unusedVariables false
set_option linter.unusedSimpArgs false
namespace Go.Bal
open Go Go.Sym Go.Proofs
theorem BDS {a : CZ} (h : ChOk a.c) (hz : V6 a = true) : ER a = 0 ↔ Hq a.c = true /\ ∃ t, TrC a.c (KB a).sp t := by
 have k := AGW (w := KB a) h
 unfold ER
 rw [MA.2 h, hz]
 cases q : (IL (KB a)).2 with
 | true => rw [q] at k; exact ⟨λ _ => k.1 rfl, λ _ => rfl⟩
 | false => rw [q] at k; exact ⟨λ e => absurd e (by decide), λ e => absurd (k.2 e) (by decide)⟩
theorem TrC.wide {c : Cht} (h : ChOk c) {sp sq : Nat -> Bool} {t : Nat -> Int} (ht : TrC c sp t) (hs : ∀ g, g + 1 < c.ms.length -> sp g = true -> sq g = true) : TrC c sq t := ⟨ht.at_, λ g hg => by
 have q := ht.gap g hg
 have b := h.gap sp (g := g) (by omega)
 refine ⟨q.1, ?_⟩
 have q2 : t (g + 1) - t g <= bif sp g then 200000000 else c.p.hi * RJ c g := q.2
 show t (g + 1) - t g <= bif sq g then 200000000 else c.p.hi * RJ c g
 cases e : sp g with
 | true => rw [hs g (by omega) e]; rw [e] at q2; exact q2
 | false =>
  rw [e] at q2
  have q2 : t (g + 1) - t g <= c.p.hi * RJ c g := q2
  cases sq g with
  | true => show _ <= (200000000 : Int); omega
  | false => exact q2⟩
theorem AQT {c : Cht} {g : Int} : g ∈ eM c ↔ 0 <= g /\ g + 1 < c.ms.length := by
 unfold eM ME
 rw [List.mem_map]
 constructor
 ·rintro ⟨i, hi, rfl⟩
  have := List.mem_range.1 hi
  omega
 ·rintro ⟨h1, h2⟩
  exact ⟨g.toNat, List.mem_range.2 (by omega), by omega⟩
theorem BAK {c : Cht} (h : ChOk c) : V6 ⟨c, eM c⟩ = true := (AXN (a := ⟨c, eM c⟩) h.m).2 ⟨λ g hg => AQT.1 hg, by
 show (eM c).Pairwise _
 unfold eM ME
 rw [List.pairwise_map]
 exact List.Pairwise.imp (λ h => by omega) List.pairwise_lt_range⟩
theorem BXN {c : Cht} (h : ChOk c) : ER ⟨c, eM c⟩ = 0 ↔ (IL (fwW c)).2 = true := by
 rw [BDS (a := ⟨c, eM c⟩) h (BAK h), AGW (w := fwW c) h]
 refine ⟨λ ⟨a, t, ht⟩ => ⟨a, AUV h ht⟩, λ ⟨a, t, ht⟩ => ⟨a, t, ?_⟩⟩
 exact TrC.wide h ht λ g hg _ => (ALY (a := ⟨c, eM c⟩) h.m (BAK h) g).2 (AQT.2 (by omega))
theorem Z2 {c : Cht} {f t : Int} : Rq ⟨c, f, t⟩ = true ↔ ∀ a b, a < c.ns.length -> b < c.ns.length -> f <= (gD c.ns a).mi -> (gD c.ns a).mi < (gD c.ns b).mi -> (gD c.ns b).mi < t -> QT c ⟨(a : Int), (b : Int)⟩ = true -> False := by
 have p : ∀ a b : Nat, whP ⟨c, f, t⟩ a b = true ↔ f <= (gD c.ns a).mi /\ (gD c.ns a).mi < (gD c.ns b).mi /\ (gD c.ns b).mi < t /\ QT c ⟨(a : Int), (b : Int)⟩ = true := λ a b => by
  show (bif bif bif decide ((gD c.ns a).mi >= f) then decide ((gD c.ns a).mi < (gD c.ns b).mi) else false then decide ((gD c.ns b).mi < t) else false then QT c ⟨(a : Int), (b : Int)⟩ else false) = true ↔ _
  by_cases q1 : (gD c.ns a).mi >= f
  ·by_cases q2 : (gD c.ns a).mi < (gD c.ns b).mi
   ·by_cases q3 : (gD c.ns b).mi < t
    ·rw [decide_eq_true q1, decide_eq_true q2, decide_eq_true q3]
     exact ⟨λ e => ⟨q1, q2, q3, e⟩, λ e => e.2.2.2⟩
    ·rw [decide_eq_true q1, decide_eq_true q2, decide_eq_false q3]
     exact ⟨λ e => (by cases e), λ e => absurd e.2.2.1 q3⟩
   ·rw [decide_eq_true q1, decide_eq_false q2]
    exact ⟨λ e => (by cases e), λ e => absurd e.2.1 q2⟩
  ·rw [decide_eq_false q1]
   exact ⟨λ e => (by cases e), λ e => absurd e.1 q1⟩
 show WZ (λ a => WZ (λ b => !whP ⟨c, f, t⟩ a b) c.ns.length) c.ns.length = true ↔ _
 rw [Ay]
 constructor
 ·intro H a b ha hb h1 h2 h3 h4
  have := Ay.1 (H a ha) b hb
  rw [(p a b).2 ⟨h1, h2, h3, h4⟩] at this; cases this
 ·intro H a ha
  refine Ay.2 λ b hb => ?_
  cases q : whP ⟨c, f, t⟩ a b with
  | false => rfl
  | true =>
   obtain ⟨h1, h2, h3, h4⟩ := (p a b).1 q
   exact absurd (H a b ha hb h1 h2 h3 h4) id
theorem AHE {c : Cht} (hm : c.ms.length <= 40) {P : Nat -> Int} {f : Nat} : ∀ k, (∀ t, f < t -> t <= f + k -> 0 <= P t /\ P t <= (c.ms.length : Int) + 1) -> (0 <= xV c P f k /\ xV c P f k <= (c.ms.length : Int) + 1) /\ (∀ t : Nat, f < t -> t <= f + k -> Rq ⟨c, (f : Int), (t : Int)⟩ = true -> xV c P f k <= P t + 1) /\ (xV c P f k = (c.ms.length : Int) + 1 ∨ ∃ t : Nat, f < t /\ t <= f + k /\ Rq ⟨c, (f : Int), (t : Int)⟩ = true /\ xV c P f k = P t + 1)
 | 0, _ => by
  have e : xV c P f 0 = (c.ms.length : Int) + 1 := TC (by omega) (by omega)
  rw [e]
  exact ⟨⟨by omega, by omega⟩, λ t h1 h2 => by omega, .inl rfl⟩
 | k + 1, hP => by
  obtain ⟨b, u, w⟩ := AHE hm k λ t h1 h2 => hP t h1 (by omega)
  have bp := hP (f + 1 + k) (by omega) (by omega)
  have ew : wr (P (f + 1 + k) + 1) = P (f + 1 + k) + 1 := TC (by omega) (by omega)
  have e : xV c P f (k + 1) = bif (bif Rq ⟨c, (f : Int), ((f + 1 + k : Nat) : Int)⟩ then decide (P (f + 1 + k) + 1 < xV c P f k) else false) then P (f + 1 + k) + 1 else xV c P f k := by
   show (bif (bif Rq ⟨c, (f : Int), ((f + 1 + k : Nat) : Int)⟩ then decide (wr (P (f + 1 + k) + 1) < xV c P f k) else false) then wr (P (f + 1 + k) + 1) else xV c P f k) = _
   rw [ew]
  have cs : (Rq ⟨c, (f : Int), ((f + 1 + k : Nat) : Int)⟩ = true /\ P (f + 1 + k) + 1 < xV c P f k /\ xV c P f (k + 1) = P (f + 1 + k) + 1) ∨ (xV c P f (k + 1) = xV c P f k /\ (Rq ⟨c, (f : Int), ((f + 1 + k : Nat) : Int)⟩ = true -> xV c P f k <= P (f + 1 + k) + 1)) := by
   rw [e]
   cases q : Rq ⟨c, (f : Int), ((f + 1 + k : Nat) : Int)⟩ with
   | false => exact .inr ⟨rfl, λ h => (by cases h)⟩
   | true =>
    by_cases r : P (f + 1 + k) + 1 < xV c P f k
    ·rw [decide_eq_true r]; exact .inl ⟨rfl, r, rfl⟩
    ·rw [decide_eq_false r]; exact .inr ⟨rfl, λ _ => by omega⟩
  rcases cs with ⟨c1, c2, c3⟩ | ⟨c1, c2⟩
  ·rw [c3]
   refine ⟨⟨by omega, by omega⟩, λ t h1 h2 h3 => ?_, .inr ⟨f + 1 + k, by omega, by omega, c1, rfl⟩⟩
   by_cases q : t = f + 1 + k
   ·subst q; exact Int.le_refl _
   ·have := u t h1 (by omega) h3; omega
  ·rw [c1]
   refine ⟨b, λ t h1 h2 h3 => ?_, ?_⟩
   ·by_cases q : t = f + 1 + k
    ·subst q; exact c2 h3
    ·exact u t h1 (by omega) h3
   ·rcases w with w | ⟨t, h1, h2, h3, h4⟩
    ·exact .inl w
    ·exact .inr ⟨t, h1, by omega, h3, h4⟩
theorem BGC {c : Cht} {j i : Nat} (h : i ≠ c.ms.length - 1 - j) : gA c (j + 1) i = gA c j i := by
 show (bif decide (i = c.ms.length - 1 - j) then _ else _) = _
 rw [decide_eq_false h]; rfl
theorem AZG {c : Cht} {j : Nat} : gA c (j + 1) (c.ms.length - 1 - j) = xV c (gA c j) (c.ms.length - 1 - j) (j + 1) := by
 show (bif decide (c.ms.length - 1 - j = c.ms.length - 1 - j) then _ else _) = _
 rw [decide_eq_true rfl]; rfl
theorem AAB {c : Cht} {j t : Nat} (ht : c.ms.length - j <= t) : ∀ d, j + d <= c.ms.length -> gA c (j + d) t = gA c j t
 | 0, _ => rfl
 | d + 1, h => by
  have := AAB ht d (by omega)
  rw [show j + (d + 1) = (j + d) + 1 by omega, BGC (by omega), this]
theorem APS {c : Cht} (hm : c.ms.length <= 40) : ∀ j t, 0 <= gA c j t /\ gA c j t <= (c.ms.length : Int) + 1
 | 0, t => by show (0 : Int) <= 0 /\ (0 : Int) <= _; omega
 | j + 1, t => by
  have ih := APS hm j
  by_cases q : t = c.ms.length - 1 - j
  ·rw [q, AZG]
   exact (AHE hm (j + 1) λ t _ _ => ih t).1
  ·rw [BGC q]; exact ih t
def fD (c : Cht) (f : Nat) : Int := gA c c.ms.length f
theorem BFN (c : Cht) : fD c c.ms.length = 0 := by
 have := AAB (c := c) (j := 0) (t := c.ms.length) (by omega) c.ms.length (by omega)
 unfold fD
 rw [Nat.zero_add] at this
 rw [this]; rfl
theorem Y9 {c : Cht} (hm : c.ms.length <= 40) {f : Nat} (hf : f < c.ms.length) : (∀ t : Nat, f < t -> t <= c.ms.length -> Rq ⟨c, (f : Int), (t : Int)⟩ = true -> fD c f <= fD c t + 1) /\ (fD c f = (c.ms.length : Int) + 1 ∨ ∃ t : Nat, f < t /\ t <= c.ms.length /\ Rq ⟨c, (f : Int), (t : Int)⟩ = true /\ fD c f = fD c t + 1) := by
 obtain ⟨j, hj⟩ : ∃ j, c.ms.length - 1 - j = f /\ j + 1 + f = c.ms.length := ⟨c.ms.length - 1 - f, by omega, by omega⟩
 have e : fD c f = xV c (gA c j) f (j + 1) := by
  have a := AAB (c := c) (j := j + 1) (t := f) (by omega) f (by omega)
  rw [show j + 1 + f = c.ms.length by omega] at a
  unfold fD
  rw [a]
  have := AZG (c := c) (j := j)
  rw [hj.1] at this; exact this
 have e2 : ∀ t, f < t -> gA c j t = fD c t := λ t ht => by
  have a := AAB (c := c) (j := j) (t := t) (by omega) (f + 1) (by omega)
  rw [show j + (f + 1) = c.ms.length by omega] at a
  exact a.symm
 obtain ⟨_, u, w⟩ := AHE hm (P := gA c j) (f := f) (j + 1) λ t _ _ => APS hm j t
 rw [e]
 refine ⟨λ t h1 h2 h3 => ?_, ?_⟩
 ·rw [<- e2 t h1]; exact u t h1 (by omega) h3
 ·rcases w with w | ⟨t, h1, h2, h3, h4⟩
  ·exact .inl w
  ·exact .inr ⟨t, h1, by omega, h3, by rw [<- e2 t h1]; exact h4⟩
theorem BPL (c : Cht) (f : Nat) : Rq ⟨c, (f : Int), ((f + 1 : Nat) : Int)⟩ = true := Z2.2 λ a b _ _ h1 h2 h3 _ => by omega
theorem BRY {c : Cht} (hm : c.ms.length <= 40) : ∀ d f, f + d = c.ms.length -> fD c f <= (d : Int)
 | 0, f, h => by
  obtain rfl : f = c.ms.length := by omega
  rw [BFN]; omega
 | d + 1, f, h => by
  have ih := BRY hm d (f + 1) (by omega)
  have := (Y9 hm (show f < _ by omega)).1 (f + 1) (by omega) (by omega) (BPL c f)
  omega
theorem CAC {R : Int -> Int -> Prop} {l : List Int} (h : l.Pairwise R) {i j : Nat} (hij : i < j) (hj : j < l.length) : R (gD l i) (gD l j) := by
 have := List.pairwise_iff_getElem.1 h i j (by omega) hj hij
 simpa [gD, List.getD_eq_getElem?_getD, hj, Nat.lt_trans hij hj] using this
theorem BJL {R : Pr -> Pr -> Prop} {l : List Pr} (h : l.Pairwise R) {i j : Nat} (hij : i < j) (hj : j < l.length) : R (gD l i) (gD l j) := by
 have := List.pairwise_iff_getElem.1 h i j (by omega) hj hij
 simpa [gD, List.getD_eq_getElem?_getD, hj, Nat.lt_trans hij hj] using this
theorem ASB {c : Cht} (h : ChOk c) {a b : Nat} (ha : a < c.ns.length) (hb : b < c.ns.length) (hl : (gD c.ns a).mi < (gD c.ns b).mi) (h2 : QT c ⟨(a : Int), (b : Int)⟩ = true) : ∃ g ∈ (TT c).q, (gD c.ns a).mi <= g /\ g < (gD c.ns b).mi := by
 have I := nL h c.ns.length (Nat.le_refl _)
 obtain ⟨i, hi, ei⟩ := qE c ha
 obtain ⟨j, hj, ej⟩ := qE c hb
 have o1 : mO c i = (gD c.ns a).mi := by unfold mO miA; rw [ei]; rfl
 have o2 : mO c j = (gD c.ns b).mi := by unfold mO miA; rw [ej]; rfl
 have lt : i < j := by
  rcases Nat.lt_trichotomy i j with q | q | q
  ·exact q
  ·subst q; omega
  ·have := AJL h q hi; omega
 obtain ⟨g, g1, g2, g3⟩ := I.met i j lt hj (by
  unfold ltO; rw [o1, o2]; exact (N1 h ha hb).1 h2)
 exact ⟨g, g1, by omega, by omega⟩
def bnF (c : Cht) (i : Nat) : Nat := if i = 0 then 0 else (gD (TT c).q (i - 1)).toNat + 1
theorem CBG {c : Cht} (h : ChOk c) : ∀ d i, i + d = (TT c).q.length -> bnF c i < c.ms.length /\ fD c (bnF c i) <= (d : Int) + 1 := by
 have I := nL h c.ns.length (Nat.le_refl _)
 have hq : ∀ k, k < (TT c).q.length -> 0 <= gD (TT c).q k /\ gD (TT c).q k + 1 < c.ms.length := λ k hk => (I.q _ (HW hk)).1
 have up : ∀ i j, i < j -> j < (TT c).q.length -> gD (TT c).q i < gD (TT c).q j := λ i j hij hj => CAC I.up hij hj
 have hb : ∀ i, i <= (TT c).q.length -> bnF c i < c.ms.length := λ i hi => by
  unfold bnF
  have := h.m
  split
  ·omega
  ·have := hq (i - 1) (by omega); omega
 have far : ∀ i k, i <= (TT c).q.length -> k < (TT c).q.length -> (bnF c i : Int) <= gD (TT c).q k -> i <= k := λ i k hi hk hg => by
  unfold bnF at hg
  split at hg
  ·omega
  ·rename_i ne
   have b := hq (i - 1) (by omega)
   rcases Nat.lt_or_ge k i with q | q
   ·rcases Nat.lt_or_ge k (i - 1) with r | r
    ·have := up k (i - 1) r (by omega); omega
    ·obtain rfl : k = i - 1 := by omega
     omega
   ·exact q
 intro d
 induction d with
 | zero =>
  intro i hi
  refine ⟨hb i (by omega), ?_⟩
  have w : Rq ⟨c, (bnF c i : Int), (c.ms.length : Int)⟩ = true := Z2.2 λ a b ha hb' h1 h2 h3 h4 => by
   obtain ⟨g, g1, g2, g3⟩ := ASB h ha hb' h2 h4
   obtain ⟨k, hk, rfl⟩ := OV g1
   have := far i k (by omega) hk (by omega)
   omega
  have := (Y9 h.m.2 (hb i (by omega))).1 c.ms.length (hb i (by omega)) (Nat.le_refl _) w
  rw [BFN] at this
  exact this
 | succ d ih =>
  intro i hi
  obtain ⟨_, i2⟩ := ih (i + 1) (by omega)
  refine ⟨hb i (by omega), ?_⟩
  have e : bnF c (i + 1) = (gD (TT c).q i).toNat + 1 := rfl
  have bi := hq i (by omega)
  have lt : bnF c i < bnF c (i + 1) := by
   rw [e]
   unfold bnF
   split
   ·omega
   ·have := up (i - 1) i (by omega) (by omega)
    have := hq (i - 1) (by omega)
    omega
  have w : Rq ⟨c, (bnF c i : Int), (bnF c (i + 1) : Int)⟩ = true := Z2.2 λ a b ha hb' h1 h2 h3 h4 => by
   obtain ⟨g, g1, g2, g3⟩ := ASB h ha hb' h2 h4
   obtain ⟨k, hk, rfl⟩ := OV g1
   have := far i k (by omega) hk (by omega)
   rw [e] at h3
   rcases Nat.lt_or_ge i k with q | q
   ·have := up i k q hk; omega
   ·obtain rfl : k = i := by omega
    omega
  have := (Y9 h.m.2 (hb i (by omega))).1 _ lt (Nat.le_of_lt (hb (i + 1) (by omega))) w
  omega
theorem BZX {c : Cht} (h : ChOk c) : ∀ d f, f + (d + 1) = c.ms.length -> ∀ i, i <= (TT c).r.length -> (i = 0 ∨ (f : Int) <= (nA c (gD (TT c).r ((TT c).r.length - i))).mi) -> (i : Int) + 1 <= fD c f := by
 have R := wS h c.ns.length (Nat.le_refl _)
 have R : PrI c c.ns.length (TT c) := R
 intro d
 induction d using Nat.strongRecOn with
 | ind d ih =>
 intro f hf i hi hA
 obtain ⟨_, w⟩ := Y9 h.m.2 (show f < c.ms.length by omega)
 have up := BRY h.m.2 (d + 1) f hf
 rcases w with w | ⟨t, h1, h2, h3, h4⟩
 ·omega
 have tp : 0 <= fD c t := (APS h.m.2 _ _).1
 rcases Nat.eq_zero_or_pos i with z | ip
 ·subst z; omega
 have hA : (f : Int) <= (nA c (gD (TT c).r ((TT c).r.length - i))).mi := by
  rcases hA with hA | hA
  ·omega
  ·exact hA
 have hk : (TT c).r.length - i < (TT c).r.length := by omega
 obtain ⟨⟨o1, o2⟩, _⟩ := R.ok _ (HW hk)
 obtain ⟨⟨⟨b1, b2⟩, b3, b4⟩, _⟩ := AAD (by have := h.n; omega) o1
 obtain ⟨⟨l1, l2, l3⟩, _⟩ := AZZ h o1 o2
 have nt : ¬ (nB c (gD (TT c).r ((TT c).r.length - i))).mi < (t : Int) := λ q => by
  refine Z2.1 h3 (gD (TT c).r ((TT c).r.length - i)).a.toNat (gD (TT c).r ((TT c).r.length - i)).b.toNat (by omega) (by omega) hA l2 q ?_
  rw [Int.toNat_of_nonneg b1, Int.toNat_of_nonneg b3]; exact o2
 have tn : t < c.ms.length := by omega
 have main := ih (c.ms.length - 1 - t) (by omega) t (by omega) (i - 1) (by omega) (by
  rcases Nat.eq_zero_or_pos (i - 1) with z | z
  ·exact .inl z
  ·refine .inr ?_
   have := BJL R.dis (i := (TT c).r.length - i) (j := (TT c).r.length - (i - 1)) (by omega) (by omega)
   omega)
 omega
theorem CAA {c : Cht} (h : ChOk c) : fD c 0 = ((TT c).q.length : Int) + 1 := by
 have R : PrI c c.ns.length (TT c) := wS h c.ns.length (Nat.le_refl _)
 have hm := h.m
 have a := (CBG h (TT c).q.length 0 (Nat.zero_add _)).2
 have a : fD c 0 <= ((TT c).q.length : Int) + 1 := a
 have b := BZX h (c.ms.length - 1) 0 (by omega) (TT c).r.length (Nat.le_refl _) (by
  rcases Nat.eq_zero_or_pos (TT c).r.length with z | z
  ·exact .inl z
  ·refine .inr ?_
   rw [Nat.sub_self]
   obtain ⟨⟨o1, o2⟩, _⟩ := R.ok _ (HW z)
   exact (AZZ h o1 o2).1.1)
 rw [R.len] at b
 omega
theorem BYA (c : Cht) : cE c = (((ZU c).q.length : Int), (ZU c).e) := by
 by_cases q : AI c = 0
 ·have h := MA.1 q
  have e1 : ZU c = dS c := by unfold ZU; rw [q]; rfl
  have k := BXN h
  rw [e1]
  by_cases r : ER ⟨c, eM c⟩ = 0
  ·have e2 : dS c = ⟨(TT c).q, (TT c).r, 0⟩ := by unfold dS; rw [k.1 r]; rfl
   have e3 : cE c = (wr (gA c c.ms.length 0 - 1), 0) := by unfold cE; rw [q, r]; rfl
   have e4 : gA c c.ms.length 0 = ((TT c).q.length : Int) + 1 := CAA h
   have b := (APS h.m.2 c.ms.length 0).2
   have m := h.m
   rw [e3, e2, e4]
   rw [e4] at b
   have e5 : wr (((TT c).q.length : Int) + 1 - 1) = ((TT c).q.length : Int) := (TC (by omega) (by omega)).trans (by omega)
   rw [e5]
  ·have t : (IL (fwW c)).2 = false := by
    cases t : (IL (fwW c)).2 with
    | false => rfl
    | true => exact absurd (k.2 t) r
   have e2 : dS c = ⟨nilI, nilP, 6⟩ := by unfold dS; rw [t]; rfl
   have e3 : cE c = (0, 6) := by
    have r' : (ER ⟨c, eM c⟩ == 0) = false := by simpa using r
    unfold cE; rw [q, r']; rfl
   rw [e3, e2]; rfl
 ·have q' : (AI c == 0) = false := by simpa using q
  unfold cE ZU
  rw [q']; rfl
theorem BBS {c : Cht} (he : (ZU c).e = 0) : AI c = 0 /\ (ZU c).q.length = (ZU c).r.length /\ (ZU c).q.length <= 20 /\ ER ⟨c, (ZU c).q⟩ = 0 /\ UA ⟨c, ((ZU c).q.length : Int), (ZU c).r⟩ = (true, 0) := by
 have q : AI c = 0 := by
  by_cases q : AI c = 0
  ·exact q
  ·have q' : (AI c == 0) = false := by simpa using q
   unfold ZU at he
   rw [q'] at he
   exact absurd he q
 have h := MA.1 q
 have e1 : ZU c = dS c := by unfold ZU; rw [q]; rfl
 have t : (IL (fwW c)).2 = true := by
  cases t : (IL (fwW c)).2 with
  | true => rfl
  | false =>
   rw [e1] at he
   unfold dS at he
   rw [t] at he
   have he : (6 : Int) = 0 := he
   omega
 have e2 : dS c = ⟨(TT c).q, (TT c).r, 0⟩ := by unfold dS; rw [t]; rfl
 rw [e1, e2]
 have R : PrI c c.ns.length (TT c) := wS h c.ns.length (Nat.le_refl _)
 have hn := h.n
 have l1 := R.le
 have l2 := R.len
 refine ⟨q, R.len.symm, by show (TT c).q.length <= 20; omega, (BDS (a := ⟨c, (TT c).q⟩) h (BKI h)).2 ((AGW (w := fwW c) h).1 t), ?_⟩
 have O : zvO ⟨c, ((TT c).q.length : Int), (TT c).r⟩ := ⟨q, by show (TT c).r.length <= 40; omega, λ i hi => (R.ok _ (HW hi)).1.1⟩
 show UA ⟨c, ((TT c).q.length : Int), (TT c).r⟩ = _
 rw [AKU O]
 have p : vZ ⟨c, ((TT c).q.length : Int), (TT c).r⟩ (TT c).r.length = true := (ADY _ λ k hk => (AZJ O hk).2.1).2 ⟨λ k hk => (R.ok _ (HW hk)).1.2, λ j k hjk hk i hi => by
  have := BJL R.dis hjk hk
  have e1 : yM ⟨c, ((TT c).q.length : Int), (TT c).r⟩ j = (nB c (gD (TT c).r j)).mi := rfl
  have e2 : Aj ⟨c, ((TT c).q.length : Int), (TT c).r⟩ k = (nA c (gD (TT c).r k)).mi := rfl
  rw [e1, e2] at hi
  omega⟩
 show (vZ ⟨c, ((TT c).q.length : Int), (TT c).r⟩ (TT c).r.length && decide (((TT c).r.length : Int) >= ((TT c).q.length : Int)), 0) = _
 rw [p, decide_eq_true (show ((TT c).r.length : Int) >= ((TT c).q.length : Int) by omega)]; rfl
end Go.Bal
