/- Package balance: what Reached says; a reach with another span. -/
import Derived.Test.YtonddbmhljelgaaBalTot
import Derived.Test.YtonddbmhljelgaaBalT20
import Derived.Test.YtonddbmhljelgaaBalT18
set_option linter.unusedVariables false
set_option linter.unusedSimpArgs false
namespace Go.Bal
open Go
variable {N : NetL} {T : TruthL}
theorem Sq (h : AC N = 0) (hc : BK N = 0) {r : Nat} (hr : r < N.r.length) {f : Int} (hf : -100000000 <= f /\ f <= 100000000) : BS ⟨N, r, f⟩ = if (gD (OE N) r).lo <= f /\ f <= (gD (OE N) r).hi then 0 else 5 := by
 obtain ⟨_, h2, _⟩ := VI h hc hr hf
 have e1 : inM (r : Int) 0 (N.r.length - 1) = true := BI.2 (by omega)
 have e2 : inM f (-100000000) 100000000 = true := BI.2 hf
 unfold BS
 simp only
 rw [if_pos h, if_pos e1, if_neg (by omega), if_pos e2]
 by_cases hi : (gD (OE N) r).lo <= f /\ f <= (gD (OE N) r).hi
 ·rw [if_pos hi, if_pos (h2.2 hi)]
 ·rw [if_neg hi, if_neg λ he => hi (h2.1 he)]
end Go.Bal

namespace Go.Bal
open Go
variable {N : NetL} {T : TruthL}
theorem Bf {f : Nat -> Int} {n k : Nat} (hk : k < n) : BM n f = BM n (λ i => if i = k then 0 else f i) + f k := by
 have : BM n f = BM n (λ i => (if i = k then 0 else f i) + if i = k then f k else 0) := AX λ i _ => by
  by_cases h : i = k
  ·subst h; simp
  ·simp [h]
 rw [this, FL, FS, if_pos hk]
end Go.Bal

namespace Go.Bal
open Go
variable {d : Desk}
def BG (π : Int -> Int) (w : Way) : Int := π w.to - π w.fr
def JI (π : Int -> Int) (l : List Way) (k : Nat) : Int := BM l.length λ i => if i = k then 0 else OF (BG π (gD l i)) (gD l i).sp
theorem Hz (h : InS d) {π : Int -> Int} {k : Nat} (hk : k < d.all.length) (hr : ∀ i, i < d.all.length -> i ≠ k -> -1 <= BG π (gD d.all i) /\ BG π (gD d.all i) <= 1) : JI π d.all k <= BG π (gD d.all k) * (gD d.all k).now := by
 have h1 : BM d.all.length (λ i => BG π (gD d.all i) * (gD d.all i).now) = 0 := h.circ π
 rw [Bf hk] at h1
 have h2 : BM d.all.length (λ i => (if i = k then 0 else BG π (gD d.all i) * (gD d.all i).now) + if i = k then 0 else OF (BG π (gD d.all i)) (gD d.all i).sp) <= BM d.all.length λ _ => 0 := QI λ i hi => by
  by_cases he : i = k
  ·simp [he]
  ·simp only [if_neg he]
   have h3 := Uj (x := (gD d.all i).now) (s := (gD d.all i).sp) (hr i hi he)
   have h4 := h.now i hi
   unfold LQ at h3
   omega
 rw [FL (λ i => if i = k then 0 else BG π (gD d.all i) * (gD d.all i).now), HI] at h2
 unfold JI
 omega
theorem Sm (h : InS d) {k : Nat} (hk : k < d.all.length) {up : Bool} (hs : Pt d (k : Int) up) :
  (gD d.all k).now = (if up then (gD d.all k).sp.hi else (gD d.all k).sp.lo) ∨ ∃ π : Int -> Int, (∀ v, π v = 0 ∨ π v = -1) /\ BG π (gD d.all k) = (if up then -1 else 1) /\ JI π d.all k = if up then -(gD d.all k).now else (gD d.all k).now := by
 have ek : ((k : Nat) : Int).toNat = k := by omega
 rcases hs with hs | ⟨S, hS1, hS2, hS3⟩
 ·left
  unfold BX at hs
  rw [ek] at hs
  cases up
  ·exact JL (h.small hk) (h.now _ hk) (by simp only [Bool.not_false] at hs; omega)
  ·exact KJ (h.small hk) (h.now _ hk) (by simp only [Bool.not_true] at hs; omega)
 ·right
  classical
  obtain ⟨π, hπ⟩ : ∃ π : Int -> Int, π = λ v => if S v then -1 else 0 := ⟨_, rfl⟩
  have p1 : ∀ v, S v -> π v = -1 := λ v hv => by rw [hπ]; simp only; rw [if_pos hv]
  have p0 : ∀ v, ¬ S v -> π v = 0 := λ v hv => by rw [hπ]; simp only; rw [if_neg hv]
  have c1 : BM d.all.length (λ i => BG π (gD d.all i) * (gD d.all i).now) = 0 := h.circ π
  rw [Bf hk] at c1
  have e : JI π d.all k + BM d.all.length (λ i => if i = k then 0 else BG π (gD d.all i) * (gD d.all i).now) = 0 := by
   unfold JI
   rw [<- FL (λ i => if i = k then 0 else OF (BG π (gD d.all i)) (gD d.all i).sp), AX (g := λ _ => 0), HI]
   intro i hi
   by_cases he : i = k
   ·simp [he]
   ·simp only [if_neg he]
    have hcnt : ∀ b : Bool, (AT (gD d.all i) b).1 = 0 -> Ph d (BV d (k : Int)) ⟨(i : Int), b⟩ := λ b hb => by
     refine ⟨⟨by simp only; omega, by simp only; omega⟩, ?_⟩
     unfold BV BX
     have e : (i : Int).toNat = i := by omega
     simp only [e, hb, Bool.and_eq_true, decide_eq_true_eq]
     refine ⟨⟨trivial, λ hh => ?_⟩, λ hh => ?_⟩
     ·have : (i : Int) = k := congrArg Step.way hh
      omega
     ·have : (i : Int) = k := congrArg Step.way hh
      omega
    unfold BG OF
    by_cases s1 : S (gD d.all i).to <;> by_cases s2 : S (gD d.all i).fr
    ·rw [p1 _ s1, p1 _ s2]; simp
    ·rw [p1 _ s1, p0 _ s2]
     have := JL (h.small hi) (h.now i hi) λ hb => s2 (hS3 _ (hcnt true hb) s1)
     rw [if_neg (by omega), if_pos (by omega)]; omega
    ·rw [p0 _ s1, p1 _ s2]
     have := KJ (h.small hi) (h.now i hi) λ hb => s1 (hS3 _ (hcnt false hb) s2)
     rw [if_pos (by omega)]; omega
    ·rw [p0 _ s1, p0 _ s2]; simp
  have hr : BG π (gD d.all k) = if up then -1 else 1 := by
   rw [TY] at hS1 hS2
   unfold BG
   cases up
   ·simp only [Bool.not_false, if_true, Bool.false_eq_true, if_false, ek] at hS1 hS2 ⊢
    rw [p1 _ hS1, p0 _ hS2]; omega
   ·simp only [Bool.not_true, if_true, Bool.false_eq_true, if_false, ek] at hS1 hS2 ⊢
    rw [p1 _ hS1, p0 _ hS2]; omega
  refine ⟨π, λ v => ?_, hr, ?_⟩
  ·by_cases hv : S v
   ·exact .inr (p1 _ hv)
   ·exact .inl (p0 _ hv)
  ·rw [hr] at c1
   cases up
   ·simp only [Bool.false_eq_true, if_false] at c1 ⊢; omega
   ·simp only [if_true] at c1 ⊢; omega
def Vy (d : Desk) (k : Nat) (up : Bool) (x : Int) : Prop := x = (if up then (gD d.all k).sp.hi else (gD d.all k).sp.lo) ∨ ∃ π : Int -> Int, (∀ v, π v = 0 ∨ π v = -1) /\ BG π (gD d.all k) = (if up then -1 else 1) /\ JI π d.all k = if up then -x else x
theorem XR {d d' : Desk} (hl : Alike d d') (π : Int -> Int) (k : Nat) : JI π d'.all k = JI π d.all k := by
 unfold JI BG
 rw [hl.len]
 exact AX λ i hi => by
  obtain ⟨a, b, c⟩ := hl.way i hi
  rw [a, b, c]
theorem Tw {d d' : Desk} (h' : InS d') (hl : Alike d d') {k : Nat} (hk : k < d.all.length) {up : Bool} (hs : Pt d' (k : Int) up) : Vy d k up (gD d'.all k).now := by
 obtain ⟨a, b, c⟩ := hl.way k hk
 rcases Sm h' (by rw [hl.len]; exact hk) hs with h | ⟨π, h1, h2, h3⟩
 ·rw [c] at h; exact .inl h
 ·unfold BG at h2
  rw [a, b] at h2
  rw [XR hl] at h3
  exact .inr ⟨π, h1, h2, h3⟩
theorem Gp {d : Desk} (h : InS d) {at' : Nat} (ha : at' < d.all.length) (hw : ∀ d', InS d' -> Alike d d' -> (gD d'.all at').now - (gD d.all at').now < 100000000 /\ (gD d.all at').now - (gD d'.all at').now < 100000000) :
  Vy d at' false ((CX d at').getD default).lo /\ Vy d at' true ((CX d at').getD default).hi := by
 have hfu : (3000000000 : Int) < fuel := by unfold fuel; decide
 have e : ((at' : Nat) : Int).toNat = at' := by omega
 have hr : 0 <= (at' : Int) /\ (at' : Int) < d.all.length := by omega
 obtain ⟨dl, tl, l1, l2, l3, l4, l5, l6, l7⟩ := LZ (at' := (at' : Int)) (up := false) (most := 100000000) (by omega) fuel d 0 h hr (by omega) (by omega)
 obtain ⟨dh, th, h1, h2, h3, h4, h5, h6, h7⟩ := LZ (at' := (at' : Int)) (up := true) (most := 100000000) (by omega) fuel d 0 h hr (by omega) (by omega)
 rw [e] at l6 h6
 simp only [Bool.false_eq_true, if_false, if_true] at l6 h6
 have wl := hw dl l2 l3
 have wh := hw dh h2 h3
 have sl := l7.resolve_left (by omega)
 have sh := h7.resolve_left (by omega)
 have es : CX d at' = some ⟨(gD dl.all at').now, (gD dh.all at').now⟩ := by
  unfold CX HT
  rw [l1, h1]
  simp only [BX, e]
 rw [es]
 exact ⟨Tw l2 l3 ha sl, Tw h2 h3 ha sh⟩
variable {N : NetL} {T : TruthL}
theorem Yo (h : AC N = 0) (hc : BK N = 0) {i : Nat} (hi : i < N.r.length + N.g.length) : Vy (AJ N) i false ((CX (AB N) i).getD default).lo /\ Vy (AJ N) i true ((CX (AB N) i).getD default).hi := by
 obtain ⟨h1, π, hs⟩ := BD h
 obtain ⟨l1, l2, l3⟩ := GP h1
 have hi' : i < (AB N).all.length := by omega
 have hS := Nu h (by omega)
 have hL := hs.like
 have key := Gp hS hi' λ d' h' hl => by
  have h2 := hS.now i hi'
  have h3 := h'.now i (by rw [hl.len]; exact hi')
  rw [(hl.way i hi').2.2] at h3
  have := QB (AS h) hL i hi'
  omega
 have conv : ∀ up x, Vy (AB N) i up x -> Vy (AJ N) i up x := λ up x hx => by
  obtain ⟨a, b, c⟩ := hL.way i (by rw [<- hL.len]; exact hi')
  unfold Vy BG at hx ⊢
  rw [a, b, c] at hx
  rcases hx with hx | ⟨π, q1, q2, q3⟩
  ·exact .inl hx
  ·rw [XR hL] at q3
   exact .inr ⟨π, q1, q2, q3⟩
 exact ⟨conv _ _ key.1, conv _ _ key.2⟩
theorem Tg (h : AC N = 0) (hc : BK N = 0) {st : List Int} (hb : grpBad N.g.length (-1) st = false) :
  Vy (CO (AB N) st) (AB N).all.length false (NB ⟨N, st⟩).lo /\ Vy (CO (AB N) st) (AB N).all.length true (NB ⟨N, st⟩).hi := by
 have hg := AS h
 have h8 := hg.g8
 have hs : Grp N.g.length st := (Ea ⟨hg.g1, h8⟩).1 hb
 obtain ⟨π, hf, hz, hL, hsome⟩ := PE h
 have hset := Qx h hc
 have hdt : AP N (Ai N) = AB N := GV hL
 have hsm : ∀ i, i < (AB N).all.length -> -1000000000 <= (gD (AB N).all i).now /\ (gD (AB N).all i).now <= 1000000000 := λ i hi => by have := MB h hi; omega
 have hin := XJ hset hs
 rw [hdt] at hin
 obtain ⟨g1, _⟩ := FN hg hs (by have := IZ hs; omega) hL hsm
 have bd : ∀ T, Can N T -> -8000000 <= MX st T /\ MX st T <= 8000000 := λ T hT => Av hs h8 λ j hj => by
  have h1 := ((PD h).1 hT).2.2.1 j hj
  have := hg.g j hj
  omega
 exact Gp hin (at' := (AB N).all.length) (by omega) λ d' i a => by
  obtain ⟨T1, c1, v1⟩ := VJ h hc hs i a
  obtain ⟨T2, c2, v2⟩ := VJ h hc hs hin (Alike.refl _)
  have := bd T1 c1
  have := bd T2 c2
  omega
end Go.Bal
