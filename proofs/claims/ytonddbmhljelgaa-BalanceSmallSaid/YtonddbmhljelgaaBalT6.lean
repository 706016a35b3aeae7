/- Package balance: each right net is settled, and heights prove it. -/
import Derived.Test.YtonddbmhljelgaaBalT3
import Derived.Test.YtonddbmhljelgaaBalJ
set_option linter.unusedVariables false
set_option linter.unusedSimpArgs false
namespace Go.Bal
open Go
theorem nL {M : Int} (hM : M <= 3000000000) : ∀ (k : Nat) (d : Desk) (π : Int -> Int), Fit d π M -> JJ d < k -> ∃ d' π', PI k d = some d' /\ Fit d' π' M /\ EI d' = List.replicate 10 0 /\ Alike d d'
 | 0, d, π, h, hk => by have := Eu d; omega
 | k + 1, d, π, h, hk => by
  simp only [PI]
  by_cases he : EI d = List.replicate 10 0
  ·rw [if_pos he]; exact ⟨d, π, rfl, h, he, Alike.refl d⟩
  ·rw [if_neg he]
   obtain ⟨d1, π1, h1, h2, h3, h4⟩ := AHV h hM he
   rw [h1]
   obtain ⟨d2, π2, h5, h6, h7, h8⟩ := nL hM k d1 π1 h2 (by omega)
   exact ⟨d2, π2, h5, h6, h7, h4.trans h8⟩
theorem rC {K : Int} (hK : 0 <= K) : ∀ {l : List Way}, (∀ w ∈ l, -K <= w.now /\ w.now <= K) -> DG 10 (λ v => max 0 (LM v l)) <= 2 * K * l.length
 | [], _ => by simp only [LM, DG]; simp
 | w :: l, h => by
  have hw := h w (by simp)
  have ih := rC hK λ x hx => h x (List.mem_cons_of_mem _ hx)
  have e1 : ∀ v : Nat, v < 10 -> max 0 (LM v (w :: l)) <= (max 0 (LM v l) + ((if v = w.to.toNat then K else 0) + if v = w.fr.toNat then K else 0)) := λ v _ => by
   simp only [LM, Pi]
   by_cases h1 : w.to = v <;> by_cases h2 : w.fr = v
   ·rw [if_pos h1, if_pos h2, if_pos (show v = w.to.toNat by omega), if_pos (show v = w.fr.toNat by omega)]; omega
   ·rw [if_pos h1, if_neg h2, if_pos (show v = w.to.toNat by omega)]; split <;> omega
   ·rw [if_neg h1, if_pos h2, if_pos (show v = w.fr.toNat by omega)]; split <;> omega
   ·rw [if_neg h1, if_neg h2]; split <;> split <;> omega
  have e2 := bI e1
  rw [QM (λ v : Nat => max 0 (LM v l)) (λ v => (if v = w.to.toNat then K else 0) + if v = w.fr.toNat then K else 0), QM, SG, SG] at e2
  have e3 : (2 * K * ((w :: l).length : Nat) : Int) = 2 * K * l.length + 2 * K := by rw [List.length_cons, Int.natCast_add, Int.mul_add]; omega
  rw [e3]
  split at e2 <;> split at e2 <;> omega
theorem P7 {d : Desk} (hl : Lay d) (hsp : ∀ i, i < d.all.length -> -100000000 <= (gD d.all i).sp.lo /\ (gD d.all i).sp.lo <= (gD d.all i).sp.hi /\ (gD d.all i).sp.hi <= 100000000)
  (hin : ∀ i, i < d.all.length -> (gD d.all i).sp.lo <= (gD d.all i).now /\ (gD d.all i).now <= (gD d.all i).sp.hi) (hsm : ∀ i, i < d.all.length -> -50000000 <= (gD d.all i).now /\ (gD d.all i).now <= 50000000) :
  ∃ d' π, MJ d = some d' /\ Fit d' π 2900000000 /\ (∀ v : Nat, v < 10 -> LM v d'.all = 0) /\ Alike d d' := by
 have h0 : JJ d <= 2 * 50000000 * d.all.length := rC (by omega) λ w hw => by
  obtain ⟨i, hi, rfl⟩ := Au hw
  exact hsm i hi
 have hlen := hl.ok.len
 have hf : Fit d (λ _ => 0) 2900000000 := ⟨hl, hsp, λ i hi => by have := hsm i hi; omega, λ i hi => .inl ⟨by omega, (hin i hi).1, (hin i hi).2⟩⟩
 have hfu : (3000000000 : Int) < fuel := by unfold fuel; decide
 obtain ⟨d', π, h1, h2, h3, h4⟩ := nL (by omega) fuel d _ hf (by omega)
 refine ⟨d', π, h1, h2, ?_, h4⟩
 exact (AGZ h2.lay.ok (B := 3000000000) (by omega) λ i hi => (h2.small (by omega) hi).now).1 h3
theorem Pt {N : NetL} (h : Good N) : Lay (AO N) := by
 have h8 := h.g8
 refine ⟨A2 h, λ i hi => ?_, λ i hi => ?_⟩
 ·rw [CW] at hi
  rw [IZ, Ex _ (by rw [NY]; exact hi)]
  show (0 <= (gD (CD N) i).fr /\ (gD (CD N) i).fr <= ((N.g.length : Nat) : Int)) /\ 0 <= (gD (CD N) i).to /\ (gD (CD N) i).to <= ((N.g.length : Nat) : Int)
  by_cases hr : i < N.r.length
  ·rw [Xh hr]
   obtain ⟨_, h2, h3, _⟩ := h.r i hr
   exact ⟨⟨h2.1, by show (gD N.r i).fr <= _; omega⟩, h3.1, by show (gD N.r i).to <= _; omega⟩
  ·obtain ⟨j, rfl⟩ : ∃ j, i = N.r.length + j := ⟨i - N.r.length, by omega⟩
   rw [Vw (by omega)]
   exact ⟨⟨by simp, by show ((N.g.length : Nat) : Int) <= _; omega⟩, by simp, by show ((j : Nat) : Int) <= _; omega⟩
 ·have hi : i < N.g.length := hi
  show (gD (AO N).all (N.r.length + i)).fr = ((N.g.length : Nat) : Int) /\ (gD (AO N).all (N.r.length + i)).to = i
  rw [IZ, Ex _ (by rw [NY]; omega)]
  rw [Vw hi]
  exact ⟨rfl, rfl⟩
theorem SI {N : NetL} (h : Good N) {i : Nat} (hi : i < (AO N).all.length) : (-1000000 <= (gD (AO N).all i).sp.lo /\ (gD (AO N).all i).sp.lo <= (gD (AO N).all i).sp.hi /\ (gD (AO N).all i).sp.hi <= 1000000) /\ (gD (AO N).all i).sp.lo <= (gD (AO N).all i).now /\ (gD (AO N).all i).now <= (gD (AO N).all i).sp.hi := by
 rw [CW] at hi
 rw [IZ, Ex _ (by rw [NY]; exact hi)]
 have key : -1000000 <= (gD (CD N) i).sp.lo /\ (gD (CD N) i).sp.lo <= (gD (CD N) i).sp.hi /\ (gD (CD N) i).sp.hi <= 1000000 := by
  by_cases hr : i < N.r.length
  ·rw [Xh hr]
   have h2 := (h.r i hr).1
   exact ⟨h2.1.1, h2.1.2, h2.2⟩
  ·obtain ⟨j, rfl⟩ : ∃ j, i = N.r.length + j := ⟨i - N.r.length, by omega⟩
   rw [Vw (by omega)]
   have h2 := h.g j (by omega)
   exact ⟨h2.1.1, h2.1.2, h2.2⟩
 refine ⟨key, ?_⟩
 show (gD (CD N) i).sp.lo <= min (max 0 (gD (CD N) i).sp.lo) (gD (CD N) i).sp.hi /\ min (max 0 (gD (CD N) i).sp.lo) (gD (CD N) i).sp.hi <= (gD (CD N) i).sp.hi
 omega
structure Settled (N : NetL) (d : Desk) (π : Int -> Int) : Prop where
 fit : Fit d π 2900000000
 zero : ∀ v : Nat, v < 10 -> LM v d.all = 0
 like : Alike (AO N) d
theorem BY {N : NetL} (h : AB N = 0) : (BH N).isSome = true /\ ∃ π, Settled N (AI N) π := by
 have hg := BB h
 obtain ⟨d, π, h1, h2, h3, h4⟩ := P7 (Pt hg) (λ i hi => by have := (SI hg hi).1; omega) (λ i hi => (SI hg hi).2) (λ i hi => by have := SI hg hi; omega)
 have hs : (BH N).isSome = true := by unfold BH; rw [h1]; rfl
 have he := (K4 hs).1
 rw [h1] at he
 cases he
 exact ⟨hs, π, h2, h3, h4⟩
theorem ANT {N : NetL} (h : AB N = 0) : (NP (AI N) any N.g.length).isSome = true := by
 obtain ⟨_, π, hs⟩ := BY h
 have ho : (AI N).out = N.g.length := hs.like.out
 obtain ⟨rf, h1, _⟩ := pF (c := any) (fr := (N.g.length : Int)) hs.fit.lay.ok (by rw [ho]; omega) (hs.fit.pot (by omega))
 rw [h1]; rfl
end Go.Bal

namespace Go.Bal
open Go
def OY {α : Type} (f : α -> Int) : List α -> Int
 | [] => 0
 | w :: l => f w + OY f l
theorem S9 {α : Type} {f g : α -> Int} : ∀ {l : List α}, (∀ w ∈ l, f w <= g w) -> OY f l <= OY g l
 | [], _ => Int.le_refl _
 | w :: l, h => by
  simp only [OY]
  have h1 := S9 (f := f) (g := g) λ x hx => h x (List.mem_cons_of_mem w hx)
  have h2 := h w (by simp)
  omega
theorem Iv {α : Type} {f g : α -> Int} {l : List α} (h : ∀ w ∈ l, f w = g w) : OY f l = OY g l :=
 Int.le_antisymm (S9 λ w hw => Int.le_of_eq (h w hw)) (S9 λ w hw => Int.le_of_eq (h w hw).symm)
theorem yL {α : Type} (f g : α -> Int) : ∀ l : List α, OY (λ w => f w + g w) l = OY f l + OY g l
 | [] => rfl
 | w :: l => by simp only [OY, yL f g l]; omega
theorem mF {α : Type} (f : α -> Int) : ∀ l m : List α, OY f (l ++ m) = OY f l + OY f m
 | [], m => by simp [OY]
 | w :: l, m => by simp only [List.cons_append, OY, mF f l m]; omega
theorem circ (π : Int -> Int) : ∀ {l : List Way}, (∀ w ∈ l, (0 <= w.fr /\ w.fr < 10) /\ 0 <= w.to /\ w.to < 10) -> OY (λ w => (π w.to - π w.fr) * w.now) l = DG 10 λ v => π v * LM v l
 | [], _ => by simp only [OY, LM, Int.mul_zero, YA]
 | w :: l, h => by
  obtain ⟨hf, ht⟩ := h w (by simp)
  have e1 : ∀ v : Nat, v < 10 -> π v * LM v (w :: l) = π v * LM v l + ((if v = w.to.toNat then π w.to * w.now else 0) + if v = w.fr.toNat then -(π w.fr * w.now) else 0) := λ v _ => by
   simp only [LM, Pi]
   by_cases h1 : w.to = v <;> by_cases h2 : w.fr = v
   ·rw [if_pos h1, if_pos h2, if_pos (show v = w.to.toNat by omega), if_pos (show v = w.fr.toNat by omega), h1, h2, Int.mul_add, Int.mul_sub]; omega
   ·rw [if_pos h1, if_neg h2, if_pos (show v = w.to.toNat by omega), if_neg (show ¬ v = w.fr.toNat by omega), h1, Int.mul_add, Int.mul_sub, Int.mul_zero]; omega
   ·rw [if_neg h1, if_pos h2, if_neg (show ¬ v = w.to.toNat by omega), if_pos (show v = w.fr.toNat by omega), h2, Int.mul_add, Int.mul_sub, Int.mul_zero]; omega
   ·rw [if_neg h1, if_neg h2, if_neg (show ¬ v = w.to.toNat by omega), if_neg (show ¬ v = w.fr.toNat by omega), Int.mul_add, Int.mul_sub, Int.mul_zero]; omega
  rw [BQ e1, QM (λ v : Nat => π v * LM v l) (λ v => (if v = w.to.toNat then π w.to * w.now else 0) + if v = w.fr.toNat then -(π w.fr * w.now) else 0), QM, SG, SG, if_pos (by omega), if_pos (by omega), <- circ π λ x hx => h x (List.mem_cons_of_mem w hx)]
  simp only [OY]
  rw [Int.sub_mul]
  omega
def Ph (x : Int) (s : Span) : Int := max 0 (max (s.lo - x) (x - s.hi))
def Yi (r : Int) (s : Span) : Int := if r = 1 then -s.hi else if r = -1 then s.lo else 0
theorem BGK {r x : Int} {s : Span} (h : -1 <= r /\ r <= 1) : r * x + Yi r s <= Ph x s := by
 unfold Yi Ph
 have hr : r = 1 ∨ r = -1 ∨ r = 0 := by omega
 rcases hr with rfl | rfl | rfl
 ·rw [if_pos rfl]; omega
 ·rw [if_neg (by omega), if_pos rfl]; omega
 ·rw [if_neg (by omega), if_neg (by omega)]; omega
theorem BOR {w : Way} {r : Int} (hs : w.sp.lo <= w.sp.hi) (h : OptW w r) : r * w.now + Yi r w.sp = Ph w.now w.sp := by
 unfold Yi Ph
 rcases h with ⟨rfl, h1, h2⟩ | ⟨rfl, h1⟩ | ⟨rfl, h1⟩
 ·rw [if_neg (by omega), if_neg (by omega)]; omega
 ·rw [if_pos rfl]; omega
 ·rw [if_neg (by omega), if_pos rfl]; omega
def YO (π : Int -> Int) (l : List Way) : Int := OY (λ w => Yi (π w.to - π w.fr) w.sp) l
def Fe (l : List Way) : Int := OY (λ w => Ph w.now w.sp) l
theorem H6 (π : Int -> Int) {l : List Way} (h : ∀ w ∈ l, (0 <= w.fr /\ w.fr < 10) /\ 0 <= w.to /\ w.to < 10) (hz : ∀ v : Nat, v < 10 -> LM v l = 0) : OY (λ w => (π w.to - π w.fr) * w.now) l = 0 := by
 rw [circ π h, BQ (g := λ _ => 0) λ v hv => by rw [hz v hv, Int.mul_zero], YA]
theorem AMI {π : Int -> Int} {l : List Way} (h : ∀ w ∈ l, (0 <= w.fr /\ w.fr < 10) /\ 0 <= w.to /\ w.to < 10) (hz : ∀ v : Nat, v < 10 -> LM v l = 0) (hr : ∀ w ∈ l, -1 <= π w.to - π w.fr /\ π w.to - π w.fr <= 1) : YO π l <= Fe l := by
 have h1 := S9 (f := λ w => (π w.to - π w.fr) * w.now + Yi (π w.to - π w.fr) w.sp) (g := λ w => Ph w.now w.sp) λ w hw => BGK (x := w.now) (s := w.sp) (hr w hw)
 rw [yL (λ w : Way => (π w.to - π w.fr) * w.now) (λ w : Way => Yi (π w.to - π w.fr) w.sp), H6 π h hz] at h1
 unfold YO Fe
 omega
theorem ANI {π : Int -> Int} {l : List Way} (h : ∀ w ∈ l, (0 <= w.fr /\ w.fr < 10) /\ 0 <= w.to /\ w.to < 10) (hz : ∀ v : Nat, v < 10 -> LM v l = 0) (hs : ∀ w ∈ l, w.sp.lo <= w.sp.hi) (ho : ∀ w ∈ l, OptW w (π w.to - π w.fr)) : YO π l = Fe l := by
 have h1 := Iv (f := λ w => (π w.to - π w.fr) * w.now + Yi (π w.to - π w.fr) w.sp) (g := λ w => Ph w.now w.sp) λ w hw => BOR (hs w hw) (ho w hw)
 rw [yL (λ w : Way => (π w.to - π w.fr) * w.now) (λ w : Way => Yi (π w.to - π w.fr) w.sp), H6 π h hz] at h1
 unfold YO Fe
 omega
theorem rK {π : Int -> Int} : ∀ {l m : List Way}, l.length = m.length -> (∀ i, i < l.length -> (gD m i).fr = (gD l i).fr /\ (gD m i).to = (gD l i).to /\ (gD m i).sp = (gD l i).sp) -> YO π m = YO π l
 | [], [], _, _ => rfl
 | [], _ :: _, h, _ => by simp at h
 | _ :: _, [], h, _ => by simp at h
 | w :: l, x :: m, hl, h => by
  have h0 := h 0 (by simp)
  have e : (gD (x :: m) 0) = x := rfl
  have e' : (gD (w :: l) 0) = w := rfl
  rw [e, e'] at h0
  have ih := rK (π := π) (l := l) (m := m) (by simpa using hl) λ i hi => h (i + 1) (by simpa using hi)
  unfold YO at ih ⊢
  simp only [OY]
  rw [h0.1, h0.2.1, h0.2.2, ih]
theorem AHX {N : NetL} {d d' : Desk} {π : Int -> Int} (h : Settled N d π) (hl : Alike d d') (hz : ∀ v : Nat, v < 10 -> LM v d'.all = 0) : Fe d.all <= Fe d'.all /\ Fe d.all = YO π d.all := by
 have hlay := h.fit.lay
 have hlay' := hlay.alike hl
 have hout := hlay.ok.out
 have m1 : ∀ w ∈ d.all, (0 <= w.fr /\ w.fr < 10) /\ 0 <= w.to /\ w.to < 10 := λ w hw => by have := hlay.mem hw; omega
 have m2 : ∀ w ∈ d'.all, (0 <= w.fr /\ w.fr < 10) /\ 0 <= w.to /\ w.to < 10 := λ w hw => by have := hlay'.mem hw; have := hl.out; omega
 have e1 := ANI m1 h.zero (λ w hw => by obtain ⟨i, hi, rfl⟩ := Au hw; have := h.fit.sp i hi; omega) (λ w hw => by obtain ⟨i, hi, rfl⟩ := Au hw; exact h.fit.opt i hi)
 have e2 := AMI (π := π) m2 hz (λ w hw => by
  obtain ⟨i, hi, rfl⟩ := Au hw
  rw [hl.len] at hi
  obtain ⟨a, b, _⟩ := hl.way i hi
  rw [a, b]
  rcases h.fit.opt i hi with ⟨h1, _⟩ | ⟨h1, _⟩ | ⟨h1, _⟩ <;> omega)
 have e3 := rK (π := π) (l := d.all) (m := d'.all) hl.len.symm (λ i hi => hl.way i hi)
 omega
end Go.Bal
