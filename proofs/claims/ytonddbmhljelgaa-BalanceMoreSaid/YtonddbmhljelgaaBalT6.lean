/- Package balance: each right net is settled, and heights prove it. -/
import Derived.Test.YtonddbmhljelgaaBalT5
import Derived.Test.YtonddbmhljelgaaBalK
set_option linter.unusedVariables false
set_option linter.unusedSimpArgs false
namespace Go.Bal
open Go
theorem PA {M : Int} (hM : M <= 3000000000) : ∀ (k : Nat) (d : Desk) (π : Int -> Int), Fit d π M -> CW d < k -> ∃ d' π', DW k d = some d' /\ Fit d' π' M /\ AY d' = List.replicate 10 0 /\ Alike d d'
 | 0, d, π, h, hk => by have := II d; omega
 | k + 1, d, π, h, hk => by
  simp only [DW]
  by_cases he : AY d = List.replicate 10 0
  ·rw [if_pos he]; exact ⟨d, π, rfl, h, he, Alike.refl d⟩
  ·rw [if_neg he]
   obtain ⟨d1, π1, h1, h2, h3, h4⟩ := Bx h hM he
   rw [h1]
   obtain ⟨d2, π2, h5, h6, h7, h8⟩ := PA hM k d1 π1 h2 (by omega)
   exact ⟨d2, π2, h5, h6, h7, h4.trans h8⟩
theorem SV {K : Int} (hK : 0 <= K) : ∀ {l : List Way}, (∀ w ∈ l, -K <= w.now /\ w.now <= K) -> BQ 10 (λ v => max 0 (EU v l)) <= 2 * K * l.length
 | [], _ => by simp only [EU, BQ]; simp
 | w :: l, h => by
  have hw := h w (by simp)
  have ih := SV hK λ x hx => h x (List.mem_cons_of_mem _ hx)
  have e1 : ∀ v : Nat, v < 10 -> max 0 (EU v (w :: l)) <= (max 0 (EU v l) + ((if v = w.to.toNat then K else 0) + if v = w.fr.toNat then K else 0)) := λ v _ => by
   simp only [EU, MF]
   by_cases h1 : w.to = v <;> by_cases h2 : w.fr = v
   ·rw [if_pos h1, if_pos h2, if_pos (show v = w.to.toNat by omega), if_pos (show v = w.fr.toNat by omega)]; omega
   ·rw [if_pos h1, if_neg h2, if_pos (show v = w.to.toNat by omega)]; split <;> omega
   ·rw [if_neg h1, if_pos h2, if_pos (show v = w.fr.toNat by omega)]; split <;> omega
   ·rw [if_neg h1, if_neg h2]; split <;> split <;> omega
  have e2 := NE e1
  rw [GL (λ v : Nat => max 0 (EU v l)) (λ v => (if v = w.to.toNat then K else 0) + if v = w.fr.toNat then K else 0), GL, FR, FR] at e2
  have e3 : (2 * K * ((w :: l).length : Nat) : Int) = 2 * K * l.length + 2 * K := by rw [List.length_cons, Int.natCast_add, Int.mul_add]; omega
  rw [e3]
  split at e2 <;> split at e2 <;> omega
theorem Hc {d : Desk} (hl : Lay d) (hsp : ∀ i, i < d.all.length -> -100000000 <= (gD d.all i).sp.lo /\ (gD d.all i).sp.lo <= (gD d.all i).sp.hi /\ (gD d.all i).sp.hi <= 100000000)
  (hin : ∀ i, i < d.all.length -> (gD d.all i).sp.lo <= (gD d.all i).now /\ (gD d.all i).now <= (gD d.all i).sp.hi) (hsm : ∀ i, i < d.all.length -> -50000000 <= (gD d.all i).now /\ (gD d.all i).now <= 50000000) :
  ∃ d' π, BY d = some d' /\ Fit d' π 2900000000 /\ (∀ v : Nat, v < 10 -> EU v d'.all = 0) /\ Alike d d' := by
 have h0 : CW d <= 2 * 50000000 * d.all.length := SV (by omega) λ w hw => by
  obtain ⟨i, hi, rfl⟩ := NR hw
  exact hsm i hi
 have hlen := hl.ok.len
 have hf : Fit d (λ _ => 0) 2900000000 := ⟨hl, hsp, λ i hi => by have := hsm i hi; omega, λ i hi => .inl ⟨by omega, (hin i hi).1, (hin i hi).2⟩⟩
 have hfu : (3000000000 : Int) < fuel := by unfold fuel; decide
 obtain ⟨d', π, h1, h2, h3, h4⟩ := PA (by omega) fuel d _ hf (by omega)
 refine ⟨d', π, h1, h2, ?_, h4⟩
 exact (ZT h2.lay.ok (B := 3000000000) (by omega) λ i hi => (h2.small (by omega) hi).now).1 h3
theorem Cv {N : NetL} (h : Good N) : Lay (AQ N) := by
 have h8 := h.g8
 refine ⟨UP h, λ i hi => ?_, λ i hi => ?_⟩
 ·rw [BV] at hi
  rw [EV, MD _ (by rw [FN]; exact hi)]
  show (0 <= (gD (AF N) i).fr /\ (gD (AF N) i).fr <= ((N.g.length : Nat) : Int)) /\ 0 <= (gD (AF N) i).to /\ (gD (AF N) i).to <= ((N.g.length : Nat) : Int)
  by_cases hr : i < N.r.length
  ·rw [SK hr]
   obtain ⟨_, h2, h3, _⟩ := h.r i hr
   exact ⟨⟨h2.1, by show (gD N.r i).fr <= _; omega⟩, h3.1, by show (gD N.r i).to <= _; omega⟩
  ·obtain ⟨j, rfl⟩ : ∃ j, i = N.r.length + j := ⟨i - N.r.length, by omega⟩
   rw [PJ (by omega)]
   exact ⟨⟨by simp, by show ((N.g.length : Nat) : Int) <= _; omega⟩, by simp, by show ((j : Nat) : Int) <= _; omega⟩
 ·have hi : i < N.g.length := hi
  show (gD (AQ N).all (N.r.length + i)).fr = ((N.g.length : Nat) : Int) /\ (gD (AQ N).all (N.r.length + i)).to = i
  rw [EV, MD _ (by rw [FN]; omega)]
  rw [PJ hi]
  exact ⟨rfl, rfl⟩
theorem HF {N : NetL} (h : Good N) {i : Nat} (hi : i < (AQ N).all.length) : (-1000000 <= (gD (AQ N).all i).sp.lo /\ (gD (AQ N).all i).sp.lo <= (gD (AQ N).all i).sp.hi /\ (gD (AQ N).all i).sp.hi <= 1000000) /\ (gD (AQ N).all i).sp.lo <= (gD (AQ N).all i).now /\ (gD (AQ N).all i).now <= (gD (AQ N).all i).sp.hi := by
 rw [BV] at hi
 rw [EV, MD _ (by rw [FN]; exact hi)]
 have key : -1000000 <= (gD (AF N) i).sp.lo /\ (gD (AF N) i).sp.lo <= (gD (AF N) i).sp.hi /\ (gD (AF N) i).sp.hi <= 1000000 := by
  by_cases hr : i < N.r.length
  ·rw [SK hr]
   have h2 := (h.r i hr).1
   exact ⟨h2.1.1, h2.1.2, h2.2⟩
  ·obtain ⟨j, rfl⟩ : ∃ j, i = N.r.length + j := ⟨i - N.r.length, by omega⟩
   rw [PJ (by omega)]
   have h2 := h.g j (by omega)
   exact ⟨h2.1.1, h2.1.2, h2.2⟩
 refine ⟨key, ?_⟩
 show (gD (AF N) i).sp.lo <= min (max 0 (gD (AF N) i).sp.lo) (gD (AF N) i).sp.hi /\ min (max 0 (gD (AF N) i).sp.lo) (gD (AF N) i).sp.hi <= (gD (AF N) i).sp.hi
 omega
structure Settled (N : NetL) (d : Desk) (π : Int -> Int) : Prop where
 fit : Fit d π 2900000000
 zero : ∀ v : Nat, v < 10 -> EU v d.all = 0
 like : Alike (AQ N) d
theorem DE {N : NetL} (h : AD N = 0) : (AT N).isSome = true /\ ∃ π, Settled N (AA N) π := by
 have hg := DD h
 obtain ⟨d, π, h1, h2, h3, h4⟩ := Hc (Cv hg) (λ i hi => by have := (HF hg hi).1; omega) (λ i hi => (HF hg hi).2) (λ i hi => by have := HF hg hi; omega)
 have hs : (AT N).isSome = true := by unfold AT; rw [h1]; rfl
 have he := (WA hs).1
 rw [h1] at he
 cases he
 exact ⟨hs, π, h2, h3, h4⟩
end Go.Bal

namespace Go.Bal
open Go
def FE {α : Type} (f : α -> Int) : List α -> Int
 | [] => 0
 | w :: l => f w + FE f l
theorem YF {α : Type} {f g : α -> Int} : ∀ {l : List α}, (∀ w ∈ l, f w <= g w) -> FE f l <= FE g l
 | [], _ => Int.le_refl _
 | w :: l, h => by
  simp only [FE]
  have h1 := YF (f := f) (g := g) λ x hx => h x (List.mem_cons_of_mem w hx)
  have h2 := h w (by simp)
  omega
theorem YR {α : Type} {f g : α -> Int} {l : List α} (h : ∀ w ∈ l, f w = g w) : FE f l = FE g l :=
 Int.le_antisymm (YF λ w hw => Int.le_of_eq (h w hw)) (YF λ w hw => Int.le_of_eq (h w hw).symm)
theorem YO {α : Type} (f g : α -> Int) : ∀ l : List α, FE (λ w => f w + g w) l = FE f l + FE g l
 | [] => rfl
 | w :: l => by simp only [FE, YO f g l]; omega
theorem QB {α : Type} (f : α -> Int) : ∀ l m : List α, FE f (l ++ m) = FE f l + FE f m
 | [], m => by simp [FE]
 | w :: l, m => by simp only [List.cons_append, FE, QB f l m]; omega
theorem circ (π : Int -> Int) : ∀ {l : List Way}, (∀ w ∈ l, (0 <= w.fr /\ w.fr < 10) /\ 0 <= w.to /\ w.to < 10) -> FE (λ w => (π w.to - π w.fr) * w.now) l = BQ 10 λ v => π v * EU v l
 | [], _ => by simp only [FE, EU, Int.mul_zero, KB]
 | w :: l, h => by
  obtain ⟨hf, ht⟩ := h w (by simp)
  have e1 : ∀ v : Nat, v < 10 -> π v * EU v (w :: l) = π v * EU v l + ((if v = w.to.toNat then π w.to * w.now else 0) + if v = w.fr.toNat then -(π w.fr * w.now) else 0) := λ v _ => by
   simp only [EU, MF]
   by_cases h1 : w.to = v <;> by_cases h2 : w.fr = v
   ·rw [if_pos h1, if_pos h2, if_pos (show v = w.to.toNat by omega), if_pos (show v = w.fr.toNat by omega), h1, h2, Int.mul_add, Int.mul_sub]; omega
   ·rw [if_pos h1, if_neg h2, if_pos (show v = w.to.toNat by omega), if_neg (show ¬ v = w.fr.toNat by omega), h1, Int.mul_add, Int.mul_sub, Int.mul_zero]; omega
   ·rw [if_neg h1, if_pos h2, if_neg (show ¬ v = w.to.toNat by omega), if_pos (show v = w.fr.toNat by omega), h2, Int.mul_add, Int.mul_sub, Int.mul_zero]; omega
   ·rw [if_neg h1, if_neg h2, if_neg (show ¬ v = w.to.toNat by omega), if_neg (show ¬ v = w.fr.toNat by omega), Int.mul_add, Int.mul_sub, Int.mul_zero]; omega
  rw [BL e1, GL (λ v : Nat => π v * EU v l) (λ v => (if v = w.to.toNat then π w.to * w.now else 0) + if v = w.fr.toNat then -(π w.fr * w.now) else 0), GL, FR, FR, if_pos (by omega), if_pos (by omega), <- circ π λ x hx => h x (List.mem_cons_of_mem w hx)]
  simp only [FE]
  rw [Int.sub_mul]
  omega
def FY (x : Int) (s : Span) : Int := max 0 (max (s.lo - x) (x - s.hi))
def Rc (r : Int) (s : Span) : Int := if r = 1 then -s.hi else if r = -1 then s.lo else 0
theorem Ua {r x : Int} {s : Span} (h : -1 <= r /\ r <= 1) : r * x + Rc r s <= FY x s := by
 unfold Rc FY
 have hr : r = 1 ∨ r = -1 ∨ r = 0 := by omega
 rcases hr with rfl | rfl | rfl
 ·rw [if_pos rfl]; omega
 ·rw [if_neg (by omega), if_pos rfl]; omega
 ·rw [if_neg (by omega), if_neg (by omega)]; omega
theorem Tb {w : Way} {r : Int} (hs : w.sp.lo <= w.sp.hi) (h : Iw w r) : r * w.now + Rc r w.sp = FY w.now w.sp := by
 unfold Rc FY
 rcases h with ⟨rfl, h1, h2⟩ | ⟨rfl, h1⟩ | ⟨rfl, h1⟩
 ·rw [if_neg (by omega), if_neg (by omega)]; omega
 ·rw [if_pos rfl]; omega
 ·rw [if_neg (by omega), if_pos rfl]; omega
def NO (π : Int -> Int) (l : List Way) : Int := FE (λ w => Rc (π w.to - π w.fr) w.sp) l
def LX (l : List Way) : Int := FE (λ w => FY w.now w.sp) l
theorem WD (π : Int -> Int) {l : List Way} (h : ∀ w ∈ l, (0 <= w.fr /\ w.fr < 10) /\ 0 <= w.to /\ w.to < 10) (hz : ∀ v : Nat, v < 10 -> EU v l = 0) : FE (λ w => (π w.to - π w.fr) * w.now) l = 0 := by
 rw [circ π h, BL (g := λ _ => 0) λ v hv => by rw [hz v hv, Int.mul_zero], KB]
theorem Qm {π : Int -> Int} {l : List Way} (h : ∀ w ∈ l, (0 <= w.fr /\ w.fr < 10) /\ 0 <= w.to /\ w.to < 10) (hz : ∀ v : Nat, v < 10 -> EU v l = 0) (hr : ∀ w ∈ l, -1 <= π w.to - π w.fr /\ π w.to - π w.fr <= 1) : NO π l <= LX l := by
 have h1 := YF (f := λ w => (π w.to - π w.fr) * w.now + Rc (π w.to - π w.fr) w.sp) (g := λ w => FY w.now w.sp) λ w hw => Ua (x := w.now) (s := w.sp) (hr w hw)
 rw [YO (λ w : Way => (π w.to - π w.fr) * w.now) (λ w : Way => Rc (π w.to - π w.fr) w.sp), WD π h hz] at h1
 unfold NO LX
 omega
theorem Qb {π : Int -> Int} {l : List Way} (h : ∀ w ∈ l, (0 <= w.fr /\ w.fr < 10) /\ 0 <= w.to /\ w.to < 10) (hz : ∀ v : Nat, v < 10 -> EU v l = 0) (hs : ∀ w ∈ l, w.sp.lo <= w.sp.hi) (ho : ∀ w ∈ l, Iw w (π w.to - π w.fr)) : NO π l = LX l := by
 have h1 := YR (f := λ w => (π w.to - π w.fr) * w.now + Rc (π w.to - π w.fr) w.sp) (g := λ w => FY w.now w.sp) λ w hw => Tb (hs w hw) (ho w hw)
 rw [YO (λ w : Way => (π w.to - π w.fr) * w.now) (λ w : Way => Rc (π w.to - π w.fr) w.sp), WD π h hz] at h1
 unfold NO LX
 omega
theorem ZM {π : Int -> Int} : ∀ {l m : List Way}, l.length = m.length -> (∀ i, i < l.length -> (gD m i).fr = (gD l i).fr /\ (gD m i).to = (gD l i).to /\ (gD m i).sp = (gD l i).sp) -> NO π m = NO π l
 | [], [], _, _ => rfl
 | [], _ :: _, h, _ => by simp at h
 | _ :: _, [], h, _ => by simp at h
 | w :: l, x :: m, hl, h => by
  have h0 := h 0 (by simp)
  have e : (gD (x :: m) 0) = x := rfl
  have e' : (gD (w :: l) 0) = w := rfl
  rw [e, e'] at h0
  have ih := ZM (π := π) (l := l) (m := m) (by simpa using hl) λ i hi => h (i + 1) (by simpa using hi)
  unfold NO at ih ⊢
  simp only [FE]
  rw [h0.1, h0.2.1, h0.2.2, ih]
theorem Bv {N : NetL} {d d' : Desk} {π : Int -> Int} (h : Settled N d π) (hl : Alike d d') (hz : ∀ v : Nat, v < 10 -> EU v d'.all = 0) : LX d.all <= LX d'.all /\ LX d.all = NO π d.all := by
 have hlay := h.fit.lay
 have hlay' := hlay.alike hl
 have hout := hlay.ok.out
 have m1 : ∀ w ∈ d.all, (0 <= w.fr /\ w.fr < 10) /\ 0 <= w.to /\ w.to < 10 := λ w hw => by have := hlay.mem hw; omega
 have m2 : ∀ w ∈ d'.all, (0 <= w.fr /\ w.fr < 10) /\ 0 <= w.to /\ w.to < 10 := λ w hw => by have := hlay'.mem hw; have := hl.out; omega
 have e1 := Qb m1 h.zero (λ w hw => by obtain ⟨i, hi, rfl⟩ := NR hw; have := h.fit.sp i hi; omega) (λ w hw => by obtain ⟨i, hi, rfl⟩ := NR hw; exact h.fit.opt i hi)
 have e2 := Qm (π := π) m2 hz (λ w hw => by
  obtain ⟨i, hi, rfl⟩ := NR hw
  rw [hl.len] at hi
  obtain ⟨a, b, _⟩ := hl.way i hi
  rw [a, b]
  rcases h.fit.opt i hi with ⟨h1, _⟩ | ⟨h1, _⟩ | ⟨h1, _⟩ <;> omega)
 have e3 := ZM (π := π) (l := d.all) (m := d'.all) hl.len.symm (λ i hi => hl.way i hi)
 omega
end Go.Bal
