/- Package balance: truths as nets at work. -/
import Derived.Test.YtonddbmhljelgaaBalT8
import Derived.Test.YtonddbmhljelgaaBalZ
set_option linter.unusedVariables false
set_option linter.unusedSimpArgs false
namespace Go.Bal
open Go
def wayT (N : NetL) (T : TruthL) (i : Nat) : Way := if i < N.r.length then ⟨(gD N.r i).fr, (gD N.r i).to, (gD N.r i).sp, gD T.f i⟩ else ⟨N.g.length, (i - N.r.length : Nat), gD N.g (i - N.r.length), gD T.t (i - N.r.length)⟩
def AV (N : NetL) (T : TruthL) : Desk := ⟨(List.range (N.r.length + N.g.length)).map (wayT N T), N.g.length, N.r.length⟩
variable {N : NetL} {T : TruthL}
theorem EB : (AV N T).all.length = N.r.length + N.g.length := by simp [AV]
theorem pI {i : Nat} (hi : i < N.r.length + N.g.length) : gD (AV N T).all i = wayT N T i := DY _ hi
theorem BBB {i : Nat} (hi : i < N.r.length) : wayT N T i = ⟨(gD N.r i).fr, (gD N.r i).to, (gD N.r i).sp, gD T.f i⟩ := if_pos hi
theorem AXR (j : Nat) : wayT N T (N.r.length + j) = ⟨N.g.length, j, gD N.g j, gD T.t j⟩ := by
 unfold wayT; rw [if_neg (by omega), show N.r.length + j - N.r.length = j by omega]
theorem NK {i : Nat} (hi : i < N.r.length) : gD (AV N T).all i = ⟨(gD N.r i).fr, (gD N.r i).to, (gD N.r i).sp, gD T.f i⟩ := by
 rw [pI (by omega), BBB hi]
theorem OU {j : Nat} (hj : j < N.g.length) : gD (AV N T).all (N.r.length + j) = ⟨N.g.length, j, gD N.g j, gD T.t j⟩ := by
 rw [pI (by omega), AXR]
theorem QQ {p : Nat -> Prop} (h1 : ∀ i, i < N.r.length -> p i) (h2 : ∀ j, j < N.g.length -> p (N.r.length + j)) : ∀ i, i < N.r.length + N.g.length -> p i := λ i hi => by
 by_cases hr : i < N.r.length
 ·exact h1 i hr
 ·obtain ⟨j, rfl⟩ : ∃ j, i = N.r.length + j := ⟨i - N.r.length, by omega⟩
  exact h2 j (by omega)
theorem JF : Alike (AO N) (AV N T) := by
 refine ⟨rfl, rfl, by rw [EB, CW], λ i hi => ?_⟩
 rw [CW] at hi
 revert i
 refine QQ (λ i hi => ?_) (λ j hj => ?_)
 ·rw [NK hi, IZ, Ex _ (by rw [NY]; omega), Xh hi]; exact ⟨rfl, rfl, rfl⟩
 ·rw [OU hj, IZ, Ex _ (by rw [NY]; omega), Vw hj]; exact ⟨rfl, rfl, rfl⟩
theorem jX {d : Desk} {i : Nat} (hi : i < d.nR) : gD (AW d).f i = (gD d.all i).now := DY (λ i => (gD d.all i).now) hi
theorem yE {d : Desk} {i : Nat} (hi : i < d.out) : gD (AW d).t i = (gD d.all (d.nR + i)).now := DY (λ i => (gD d.all (d.nR + i)).now) hi
theorem WP {d : Desk} (h : Alike (AO N) d) : AV N (AW d) = d := by
 obtain ⟨h1, h2, h3⟩ := OC h
 have hnR : d.nR = N.r.length := h.nR
 have hout : d.out = N.g.length := h.out
 have ha : (AV N (AW d)).all = d.all := by
  refine Jc (by rw [EB, h1]) λ i hi => ?_
  rw [EB] at hi
  revert i
  refine QQ (λ i hi => ?_) (λ j hj => ?_)
  ·obtain ⟨a, b, e⟩ := h2 i hi
   rw [NK hi, jX (by omega), <- a, <- b, <- e]
  ·obtain ⟨a, b, e⟩ := h3 j hj
   rw [OU hj, yE (by omega), hnR, <- a, <- b, <- e]
 have e : AV N (AW d) = ⟨(AV N (AW d)).all, N.g.length, N.r.length⟩ := rfl
 rw [e, ha, <- hnR, <- hout]
theorem M2 (h1 : T.f.length = N.r.length) (h2 : T.t.length = N.g.length) : AW (AV N T) = T := by
 have e1 : (AW (AV N T)).f = T.f := Jc (by simp [AW, h1, AV]) λ i hi => by
  have hi : i < N.r.length := by simpa [AW, AV] using hi
  rw [jX (d := AV N T) hi, NK hi]
 have e2 : (AW (AV N T)).t = T.t := Jc (by simp [AW, h2, AV]) λ i hi => by
  have hi : i < N.g.length := by simpa [AW, AV] using hi
  rw [yE (d := AV N T) hi, show (AV N T).nR = N.r.length from rfl, OU hi]
 obtain ⟨f, t⟩ := T
 show TruthL.mk (AW (AV N ⟨f, t⟩)).f (AW (AV N ⟨f, t⟩)).t = _
 rw [e1, e2]
def bS (s : Int) (r : Reach) (f : Int) : Int := if r.fr = s then -f else if r.to = s then f else 0
theorem AAI {B : Int} (hB : 0 <= B /\ B <= 1000000000000) (s : Int) : ∀ (l : List Reach) (m : List Int) (x K : Int), l.length = m.length -> (∀ i, i < m.length -> -B <= gD m i /\ gD m i <= B) -> -K <= x /\ x <= K -> K + B * l.length <= 1000000000000000 ->
  sQ s x l m = x + DG l.length λ i => bS s (gD l i) (gD m i)
 | [], [], x, K, _, _, _, _ => by simp [sQ, DG]
 | [], _ :: _, x, K, h, _, _, _ => by simp at h
 | _ :: _, [], x, K, h, _, _, _ => by simp at h
 | r :: l, f :: m, x, K, hl, hm, hx, hK => by
  have hf : -B <= f /\ f <= B := hm 0 (by simp)
  have e3 : (B * ((r :: l).length : Nat) : Int) = B * l.length + B := by rw [List.length_cons, Int.natCast_add, Int.mul_add]; omega
  rw [e3] at hK
  have hp : 0 <= B * (l.length : Int) := Int.mul_nonneg (by omega) (by omega)
  have hb : iF s x r f = x + bS s r f := by
   unfold iF bS
   rw [FK (n := x - f) (by omega) (by omega), FK (n := x + f) (by omega) (by omega)]
   split
   ·omega
   ·split <;> omega
  have hbb : -B <= bS s r f /\ bS s r f <= B := by unfold bS; split <;> (try split) <;> omega
  rw [List.length_cons, Yn]
  simp only [sQ]
  rw [hb, AAI hB s l m _ (K + B) (by simpa using hl) (λ i hi => hm (i + 1) (by simpa using hi)) (by omega) (by omega)]
  show x + bS s r f + _ = x + (bS s r f + _)
  rw [Int.add_assoc]; rfl
theorem AQK (v : Int) : ∀ l : List Way, LM v l = OY (Pi v) l
 | [] => rfl
 | w :: l => by simp only [LM, OY, AQK v l]
theorem BCM (v : Int) : LM v (AV N T).all = DG N.r.length (λ i => Pi v (wayT N T i)) + DG N.g.length λ j => Pi v (wayT N T (N.r.length + j)) := by
 rw [AQK, Ld, EB, Il]
 congr 1
 ·exact BQ λ i hi => by rw [pI (by omega)]
 ·exact BQ λ i hi => by rw [pI (by omega)]
def Tk (T : TruthL) : Prop := (∀ i, i < T.f.length -> -100000000 <= gD T.f i /\ gD T.f i <= 100000000) /\ ∀ i, i < T.t.length -> -100000000 <= gD T.t i /\ gD T.t i <= 100000000
theorem AOL (hg : GoodW N) (h1 : T.f.length = N.r.length) (h2 : T.t.length = N.g.length) (hT : Tk T) {s : Nat} (hs : s < N.g.length) : qT N T s = LM s (AV N T).all := by
 have h14 := hg.r14
 unfold qT
 rw [AAI (B := 100000000) (by omega) s N.r T.f (gD T.t s) 100000000 h1.symm hT.1 (hT.2 s (by omega)) (by omega), BCM]
 have e1 : DG N.g.length (λ j => Pi s (wayT N T (N.r.length + j))) = gD T.t s := by
  rw [BQ (g := λ j => if j = s then gD T.t s else 0), SG, if_pos hs]
  intro j hj
  rw [AXR]
  unfold Pi
  simp only
  rw [if_neg (show ¬ ((N.g.length : Nat) : Int) = (s : Int) by omega)]
  by_cases he : j = s
  ·subst he; simp
  ·rw [if_neg he, if_neg (by omega)]; rfl
 rw [e1, Int.add_comm]
 congr 1
 refine BQ λ i hi => ?_
 rw [BBB hi]
 obtain ⟨_, _, _, hne⟩ := hg.r i hi
 unfold bS Pi
 simp only
 by_cases a : (gD N.r i).fr = (s : Int)
 ·rw [if_pos a, if_pos a, if_neg (by omega)]; omega
 ·rw [if_neg a, if_neg a]; omega
theorem Ze (hg : GoodW N) : Lay (AV N T) := by
 have h8 := hg.g8
 have h14 := hg.r14
 have hout : (AV N T).out = N.g.length := rfl
 have en : ∀ i, i < N.r.length + N.g.length -> (0 <= (gD (AV N T).all i).fr /\ (gD (AV N T).all i).fr <= N.g.length) /\ 0 <= (gD (AV N T).all i).to /\ (gD (AV N T).all i).to <= N.g.length := by
  refine QQ (λ i hi => ?_) (λ j hj => ?_)
  ·rw [NK hi]; obtain ⟨_, a, b, _⟩ := hg.r i hi; simp only; omega
  ·rw [OU hj]; simp only; omega
 refine ⟨⟨h8, by rw [EB]; omega, by rw [EB]; exact Nat.le_refl _, λ i hi => ?_⟩, λ i hi => ?_, λ i hi => ?_⟩
 ·rw [EB] at hi; have := en i hi; rw [hout]; omega
 ·rw [EB] at hi; have := en i hi; rw [hout]; omega
 ·have hi : i < N.g.length := hi
  rw [show (AV N T).nR = N.r.length from rfl, OU hi]; exact ⟨rfl, rfl⟩
theorem oQ (hg : GoodW N) (h1 : T.f.length = N.r.length) (h2 : T.t.length = N.g.length) (hT : Tk T) : Li N T = [] ↔ ∀ v : Nat, v < 10 -> LM v (AV N T).all = 0 := by
 have hL := Ze (T := T) hg
 have hout : (AV N T).out = N.g.length := rfl
 have e : Li N T = [] ↔ ∀ s, s < N.g.length -> qT N T s = 0 := by
  unfold Li KR
  rw [List.map_eq_nil_iff, List.filter_eq_nil_iff]
  simp only [List.mem_range, Er, Bool.not_eq_true', decide_eq_false_iff_not, Decidable.not_not]
 rw [e]
 constructor
 ·intro h v hv
  by_cases hvs : v < N.g.length
  ·rw [<- AOL hg h1 h2 hT hvs]; exact h v hvs
  ·by_cases hvo : v = N.g.length
   ·subst hvo
    refine Classical.byContradiction λ hne => ?_
    obtain ⟨⟨a, ha, pa⟩, ⟨b, hb, pb⟩⟩ := hL.both hv hne
    have k : ∀ u : Nat, u < 10 -> u ≠ N.g.length -> LM u (AV N T).all = 0 := λ u hu hn => by
     by_cases hus : u < N.g.length
     ·rw [<- AOL hg h1 h2 hT hus]; exact h u hus
     ·exact hL.zero (by omega)
    by_cases ea : a = N.g.length
    ·by_cases eb : b = N.g.length
     ·subst ea; rw [eb] at pb; omega
     ·rw [k b hb eb] at pb; omega
    ·rw [k a ha ea] at pa; omega
   ·exact hL.zero (by omega)
 ·intro h s hs
  have := hg.g8
  rw [AOL hg h1 h2 hT hs]; exact h s (by omega)
theorem ARN (hg : GoodW N) (h1 : T.f.length = N.r.length) (h2 : T.t.length = N.g.length) (hT : Tk T) : VV N T = Fe (AV N T).all := by
 rw [<- K9 hg (JF (T := T)), M2 h1 h2]
 intro i hi
 rw [EB] at hi
 revert i
 refine QQ (λ i hi => ?_) (λ j hj => ?_)
 ·rw [NK hi]; have := hT.1 i (by omega); simp only; omega
 ·rw [OU hj]; have := hT.2 j (by omega); simp only; omega
end Go.Bal

namespace Go.Bal
open Go
variable {N : NetL} {T : TruthL}
theorem cN (h : AB N = 0) : ∃ π, Fit (AI N) π 46000000 /\ (∀ v : Nat, v < 10 -> LM v (AI N).all = 0) /\ Alike (AO N) (AI N) /\ (BH N).isSome = true := by
 have hg := BB h
 have hl := Pt hg
 have h8 := hg.g8
 have h14 := hg.r14
 have hlen := CW N
 have h0 : JJ (AO N) <= 2 * 1000000 * (AO N).all.length := rC (by omega) λ w hw => by
  obtain ⟨i, hi, rfl⟩ := Au hw
  have := SI hg hi
  omega
 have hf : Fit (AO N) (λ _ => 0) 46000000 := ⟨hl, λ i hi => by have := (SI hg hi).1; omega, λ i hi => by have := SI hg hi; omega, λ i hi => .inl ⟨by omega, (SI hg hi).2.1, (SI hg hi).2.2⟩⟩
 have hfu : (3000000000 : Int) < fuel := by unfold fuel; decide
 obtain ⟨d', π, h1, h2, h3, h4⟩ := nL (by omega) fuel (AO N) _ hf (by omega)
 obtain ⟨hs, _⟩ := BY h
 have he := (K4 hs).1
 have h1 : MJ (AO N) = some d' := h1
 rw [h1] at he
 cases he
 exact ⟨π, h2, (AGZ h2.lay.ok (B := 3000000000) (by omega) λ i hi => (h2.small (by omega) hi).now).1 h3, h4, hs⟩
theorem Pv (h : AB N = 0) {i : Nat} (hi : i < (AI N).all.length) : -46000000 <= (gD (AI N).all i).now /\ (gD (AI N).all i).now <= 46000000 := by
 obtain ⟨π, hf, _⟩ := cN h
 have := hf.now i hi
 have := Eu (AI N)
 omega
def S1 (N : NetL) : TruthL := AW (AI N)
theorem AZE (h : AB N = 0) (h1 : T.f.length = N.r.length) (h2 : T.t.length = N.g.length) (hT : Tk T) : II N T = 0 := by
 have a1 : XT (λ i => inM (gD T.f i) (-100000000) 100000000) T.f.length = true := PE.2 λ i hi => CV.2 (hT.1 i hi)
 have a2 : XT (λ i => inM (gD T.t i) (-100000000) 100000000) T.t.length = true := PE.2 λ i hi => CV.2 (hT.2 i hi)
 unfold II
 rw [if_pos h, if_pos ⟨h1, h2⟩, a1, a2]; rfl
theorem Ux (h : II N T = 0) : AB N = 0 /\ T.f.length = N.r.length /\ T.t.length = N.g.length /\ Tk T := by
 obtain ⟨a, ⟨b, c⟩, d, e⟩ := Pp h
 exact ⟨a, b, c, d, e⟩
theorem AQQ (h : AB N = 0) {d : Desk} (hl : Alike (AO N) d) (hb : ∀ i, i < d.all.length -> -100000000 <= (gD d.all i).now /\ (gD d.all i).now <= 100000000) (hz : ∀ v : Nat, v < 10 -> LM v d.all = 0) :
  II N (AW d) = 0 /\ Li N (AW d) = [] /\ VV N (AW d) = Fe d.all := by
 have hg := BB h
 have hnR : d.nR = N.r.length := hl.nR
 have hout : d.out = N.g.length := hl.out
 have hlen : d.all.length = N.r.length + N.g.length := (OC hl).1
 have l1 : (AW d).f.length = N.r.length := by rw [Gh, hnR]
 have l2 : (AW d).t.length = N.g.length := by rw [Et, hout]
 have hT : Tk (AW d) := ⟨λ i hi => by rw [jX (by omega)]; exact hb i (by omega), λ i hi => by rw [yE (by omega)]; exact hb _ (by omega)⟩
 refine ⟨AZE h l1 l2 hT, (oQ hg.w l1 l2 hT).2 ?_, ?_⟩
 ·rw [WP hl]; exact hz
 ·rw [ARN hg.w l1 l2 hT, WP hl]
theorem ALV (h : AB N = 0) : II N (S1 N) = 0 /\ Li N (S1 N) = [] /\ VV N (S1 N) = EV N := by
 obtain ⟨π, hf, hz, hl, _⟩ := cN h
 obtain ⟨a, b, c⟩ := AQQ h hl (λ i hi => by have := Pv h hi; omega) hz
 exact ⟨a, b, c.trans (xV h).symm⟩
theorem BDA (ha : II N T = 0) (hu : Li N T = []) : EV N <= VV N T := by
 obtain ⟨h, l1, l2, hT⟩ := Ux ha
 have hg := BB h
 obtain ⟨_, π, hs⟩ := BY h
 rw [ARN hg.w l1 l2 hT, xV h]
 have hl : Alike (AI N) (AV N T) := by
  have a := hs.like
  have b : Alike (AO N) (AV N T) := JF
  exact ⟨b.out.trans a.out.symm, b.nR.trans a.nR.symm, b.len.trans a.len.symm, λ i hi => by
   obtain ⟨a1, a2, a3⟩ := a.way i (by rw [<- a.len]; exact hi)
   obtain ⟨b1, b2, b3⟩ := b.way i (by rw [<- a.len]; exact hi)
   exact ⟨b1.trans a1.symm, b2.trans a2.symm, b3.trans a3.symm⟩⟩
 exact (AHX hs hl ((oQ hg.w l1 l2 hT).1 hu)).1
theorem AJD {r p : Int} {s : Span} (hs : -1000000 <= s.lo /\ s.lo <= s.hi /\ s.hi <= 1000000) (hp : -1000000000000000 <= p /\ p <= 1000000000000000) : sV r s p = p + Yi (-r) s := by
 unfold sV Yi
 rw [FK (n := p + s.lo) (by omega) (by omega), FK (n := p - s.hi) (by omega) (by omega)]
 by_cases h1 : r = 1
 ·rw [if_pos h1, if_neg (by omega), if_pos (by omega)]
 ·rw [if_neg h1]
  by_cases h2 : r = -1
  ·rw [if_pos h2, if_pos (by omega)]; omega
  ·rw [if_neg h2, if_neg (by omega), if_neg (by omega)]; omega
theorem tD (r : Int) {s : Span} (hs : -1000000 <= s.lo /\ s.lo <= s.hi /\ s.hi <= 1000000) : -1000000 <= Yi r s /\ Yi r s <= 1000000 := by
 unfold Yi; split
 ·omega
 ·split <;> omega
theorem BAS (lv : List Int) : ∀ (l : List Reach) (p K : Int), (∀ i, i < l.length -> -1000000 <= (gD l i).sp.lo /\ (gD l i).sp.lo <= (gD l i).sp.hi /\ (gD l i).sp.hi <= 1000000) -> -K <= p /\ p <= K -> K + 1000000 * l.length <= 1000000000000000 ->
  prR lv p l = p + DG l.length λ i => Yi (-(Ll lv (gD l i))) (gD l i).sp
 | [], p, K, _, _, _ => by simp [prR, DG]
 | r :: l, p, K, hs, hp, hK => by
  have h0 : -1000000 <= r.sp.lo /\ r.sp.lo <= r.sp.hi /\ r.sp.hi <= 1000000 := hs 0 (by simp)
  have hb := tD (-(Ll lv r)) h0
  rw [List.length_cons] at hK
  rw [List.length_cons, Yn]
  simp only [prR]
  rw [AJD h0 (by omega), BAS lv l _ (K + 1000000) (λ i hi => hs (i + 1) (by simpa using hi)) (by omega) (by omega)]
  show p + Yi (-(Ll lv r)) r.sp + _ = p + (Yi (-(Ll lv r)) r.sp + _)
  rw [Int.add_assoc]; rfl
theorem AYV : ∀ (lv : List Int) (l : List Span) (p K : Int), lv.length = l.length -> (∀ i, i < l.length -> -1000000 <= (gD l i).lo /\ (gD l i).lo <= (gD l i).hi /\ (gD l i).hi <= 1000000) -> -K <= p /\ p <= K -> K + 1000000 * l.length <= 1000000000000000 ->
  prG p lv l = p + DG l.length λ i => Yi (-(gD lv i)) (gD l i)
 | [], [], p, K, _, _, _, _ => by simp [prG, DG]
 | [], _ :: _, p, K, h, _, _, _ => by simp at h
 | _ :: _, [], p, K, h, _, _, _ => by simp at h
 | x :: lv, s :: l, p, K, hl, hs, hp, hK => by
  have h0 : -1000000 <= s.lo /\ s.lo <= s.hi /\ s.hi <= 1000000 := hs 0 (by simp)
  have hb := tD (-x) h0
  rw [List.length_cons] at hK
  rw [List.length_cons, Yn]
  simp only [prG]
  rw [AJD h0 (by omega), AYV lv l _ (K + 1000000) (by simpa using hl) (λ i hi => hs (i + 1) (by simpa using hi)) (by omega) (by omega)]
  show p + Yi (-x) s + _ = p + (Yi (-x) s + _)
  rw [Int.add_assoc]; rfl
def Yk (lv : List Int) (v : Int) : Int := if 0 <= v /\ v < lv.length then -(gD lv v.toNat) else 0
theorem SQ {lv : List Int} : XM N lv = true ↔ lv.length = N.g.length /\ (∀ i, i < lv.length -> -1 <= gD lv i /\ gD lv i <= 1) /\ ∀ i, i < N.r.length -> -1 <= Ll lv (gD N.r i) /\ Ll lv (gD N.r i) <= 1 := by
 unfold XM
 simp only [Bool.and_eq_true, decide_eq_true_eq, PE, Qv, CV]
 constructor
 ·rintro ⟨⟨a, b⟩, c⟩; exact ⟨a, b, c⟩
 ·rintro ⟨a, b, c⟩; exact ⟨⟨a, b⟩, c⟩
theorem Pd {lv : List Int} (hg : Good N) (hl : lv.length = N.g.length) (hb : ∀ i, i < lv.length -> -1 <= gD lv i /\ gD lv i <= 1) {i : Nat} (hi : i < N.r.length) : -(Ll lv (gD N.r i)) = Yk lv (gD N.r i).to - Yk lv (gD N.r i).fr := by
 obtain ⟨_, h1, h2, _⟩ := hg.r i hi
 have b1 := hb (gD N.r i).fr.toNat (by omega)
 have b2 := hb (gD N.r i).to.toNat (by omega)
 unfold Ll Yk
 rw [FK (n := gD lv (gD N.r i).to.toNat - gD lv (gD N.r i).fr.toNat) (by omega) (by omega), if_pos (by omega), if_pos (by omega)]
 omega
theorem tA {lv : List Int} (hg : Good N) (hl : lv.length = N.g.length) (hb : ∀ i, i < lv.length -> -1 <= gD lv i /\ gD lv i <= 1) {d : Desk} (hd : Alike (AO N) d) : Fr N lv = YO (Yk lv) d.all := by
 obtain ⟨e1, e2, e3⟩ := OC hd
 have h8 := hg.g8
 have h14 := hg.r14
 have sR : ∀ i, i < N.r.length -> -1000000 <= (gD N.r i).sp.lo /\ (gD N.r i).sp.lo <= (gD N.r i).sp.hi /\ (gD N.r i).sp.hi <= 1000000 := λ i hi => by have := (hg.r i hi).1; omega
 have sG : ∀ i, i < N.g.length -> -1000000 <= (gD N.g i).lo /\ (gD N.g i).lo <= (gD N.g i).hi /\ (gD N.g i).hi <= 1000000 := λ i hi => by have := hg.g i hi; omega
 have hcap : ∀ (n : Nat) (f : Nat -> Int), (∀ i, i < n -> -1000000 <= f i /\ f i <= 1000000) -> -(1000000 * (n : Int)) <= DG n f /\ DG n f <= 1000000 * n := by
  intro n f h
  induction n with
  | zero => simp [DG]
  | succ n ih =>
   have := ih λ i hi => h i (by omega)
   have := h n (by omega)
   simp only [DG]; omega
 have cR := hcap N.r.length (λ i => Yi (-(Ll lv (gD N.r i))) (gD N.r i).sp) λ i hi => tD _ (sR i hi)
 unfold Fr
 rw [BAS lv N.r 0 0 sR (by omega) (by omega), AYV lv N.g _ 20000000 hl sG (by omega) (by omega)]
 unfold YO
 rw [Ld, e1, Il, Int.zero_add]
 congr 1
 ·refine BQ λ i hi => ?_
  obtain ⟨a, b, c⟩ := e2 i hi
  rw [a, b, c, Pd hg hl hb hi]
 ·refine BQ λ i hi => ?_
  obtain ⟨a, b, c⟩ := e3 i hi
  rw [a, b, c]
  unfold Yk
  rw [if_pos (by omega), if_neg (by omega)]
  simp
theorem AZY {d : Desk} (hg : Good N) (hd : Alike (AO N) d) : ∀ w ∈ d.all, (0 <= w.fr /\ w.fr < 10) /\ 0 <= w.to /\ w.to < 10 := λ w hw => by
 have hL := (Pt hg).alike hd
 have := hL.mem hw
 have := hL.ok.out
 omega
theorem BCX {lv : List Int} (hv : XM N lv = true) (ha : II N T = 0) (hu : Li N T = []) : Fr N lv <= VV N T := by
 obtain ⟨h, l1, l2, hT⟩ := Ux ha
 have hg := BB h
 obtain ⟨v1, v2, v3⟩ := SQ.1 hv
 rw [ARN hg.w l1 l2 hT, tA hg v1 v2 (JF (T := T))]
 refine AMI (AZY hg JF) ((oQ hg.w l1 l2 hT).1 hu) λ w hw => ?_
 obtain ⟨i, hi, rfl⟩ := Au hw
 rw [EB] at hi
 revert i
 refine QQ (λ i hi _ => ?_) (λ j hj _ => ?_)
 ·rw [NK hi]; simp only; rw [<- Pd hg v1 v2 hi]; have := v3 i hi; omega
 ·rw [OU hj]; simp only; unfold Yk; rw [if_pos (by omega), if_neg (by omega)]; have := v2 j (by omega); simp only [Int.toNat_natCast]; omega
theorem AHZ {lv : List Int} (h : AB N = 0) (hv : XM N lv = true) : Fr N lv <= EV N := by
 obtain ⟨a, b, c⟩ := ALV h
 rw [<- c]; exact BCX hv a b
theorem AXS (h : AB N = 0) : XM N (Gn N) = true /\ Fr N (Gn N) = EV N := by
 have hg := BB h
 have h8 := hg.g8
 obtain ⟨π, hf, hz, hl, _⟩ := cN h
 have hout : (AI N).out = N.g.length := hl.out
 obtain ⟨rf, r1, r2, r3, r4⟩ := BBL hf (by omega) (o := (N.g.length : Int)) (by omega)
 obtain ⟨e1, e2, e3⟩ := OC hl
 have hro : Aj (AI N) any N.g.length = rf := by simp [Aj, r1]
 have hrise : ∀ i, i < (AI N).all.length -> -1 <= (rf.m.far (gD (AI N).all i).to).cost - (rf.m.far (gD (AI N).all i).fr).cost /\ (rf.m.far (gD (AI N).all i).to).cost - (rf.m.far (gD (AI N).all i).fr).cost <= 1 := λ i hi => by
  have := r4.opt i hi
  unfold OptW at this
  omega
 have hgain : ∀ j, j < N.g.length -> -1 <= (rf.m.far (j : Nat)).cost /\ (rf.m.far (j : Nat)).cost <= 1 := λ j hj => by
  have := hrise (N.r.length + j) (by omega)
  obtain ⟨_, b, c⟩ := e3 j hj
  rw [b, c, r3] at this
  omega
 have hlen : (Gn N).length = N.g.length := by simp [Gn]
 have hlv : ∀ j, j < N.g.length -> gD (Gn N) j = -(rf.m.far (j : Nat)).cost := λ j hj => by
  unfold Gn
  rw [DY (λ (i : Nat) => wr (-((Aj (AI N) any N.g.length).m.far i).cost)) hj, hro]
  have := hgain j hj
  exact FK (by omega) (by omega)
 have hb : ∀ i, i < (Gn N).length -> -1 <= gD (Gn N) i /\ gD (Gn N) i <= 1 := λ i hi => by
  rw [hlv i (by omega)]; have := hgain i (by omega); omega
 have hpi : ∀ v : Int, 0 <= v -> v <= N.g.length -> Yk (Gn N) v = (rf.m.far v).cost := λ v h0 h1 => by
  unfold Yk
  by_cases hv : v < N.g.length
  ·rw [if_pos (by omega), hlv _ (by omega), show ((v.toNat : Nat) : Int) = v by omega]; omega
  ·rw [if_neg (by omega), show v = N.g.length by omega, r3]
 have hends := r4.lay.ends
 refine ⟨SQ.2 ⟨hlen, hb, λ i hi => ?_⟩, ?_⟩
 ·have := hrise i (by omega)
  obtain ⟨_, b, c⟩ := e2 i hi
  rw [b, c] at this
  have e := Pd hg hlen hb hi
  obtain ⟨_, q1, q2, _⟩ := hg.r i hi
  rw [hpi _ q1.1 (by omega), hpi _ q2.1 (by omega)] at e
  omega
 ·rw [tA hg hlen hb hl, xV h]
  have hlow : YO (Yk (Gn N)) (AI N).all = YO (λ v => (rf.m.far v).cost) (AI N).all := by
   unfold YO
   refine Iv λ w hw => ?_
   have := r4.lay.mem hw
   rw [hpi _ (by omega) (by omega), hpi _ (by omega) (by omega)]
  rw [hlow]
  refine ANI (AZY hg hl) hz (λ w hw => ?_) λ w hw => ?_
  ·obtain ⟨i, hi, rfl⟩ := Au hw
   have := hf.sp i hi; omega
  ·obtain ⟨i, hi, rfl⟩ := Au hw
   exact r4.opt i hi
end Go.Bal

namespace Go.Bal
open Go
variable {N : NetL} {T : TruthL}
structure Can (N : NetL) (T : TruthL) : Prop where
 ask : II N T = 0
 unb : Li N T = []
 cost : VV N T = 0
theorem Cl {d d1 d2 : Desk} (a : Alike d d1) (b : Alike d d2) : Alike d1 d2 := ⟨b.out.trans a.out.symm, b.nR.trans a.nR.symm, b.len.trans a.len.symm, λ i hi => by
 obtain ⟨a1, a2, a3⟩ := a.way i (by rw [<- a.len]; exact hi)
 obtain ⟨b1, b2, b3⟩ := b.way i (by rw [<- a.len]; exact hi)
 exact ⟨b1.trans a1.symm, b2.trans a2.symm, b3.trans a3.symm⟩⟩
theorem gC (hg : Good N) {d : Desk} (hl : Alike (AO N) d) : ∀ i, i < d.all.length -> -1000000 <= (gD d.all i).sp.lo /\ (gD d.all i).sp.lo <= (gD d.all i).sp.hi /\ (gD d.all i).sp.hi <= 1000000 := λ i hi => by
 have h := (SI hg (i := i) (by rw [<- hl.len]; exact hi)).1
 rw [<- (hl.way i (by rw [<- hl.len]; exact hi)).2.2] at h
 exact h
theorem Y2 {l : List Way} (h : Fe l = 0) {i : Nat} (hi : i < l.length) : (gD l i).sp.lo <= (gD l i).now /\ (gD l i).now <= (gD l i).sp.hi := by
 have := H7 (λ w _ => by unfold Ph; omega) h (gD l i) (Fi hi)
 unfold Ph at this
 omega
theorem AUP {l : List Way} (h : ∀ i, i < l.length -> (gD l i).sp.lo <= (gD l i).now /\ (gD l i).now <= (gD l i).sp.hi) : Fe l = 0 := by
 unfold Fe
 rw [Iv (g := λ _ => 0) λ w hw => ?_]
 ·rw [Ld, YA]
 ·obtain ⟨i, hi, rfl⟩ := Au hw
  have := h i hi
  unfold Ph; omega
theorem lS (h : Can N T) : InS (AV N T) /\ Alike (AO N) (AV N T) := by
 obtain ⟨hc, l1, l2, hT⟩ := Ux h.ask
 have hg := BB hc
 have hz := h.cost
 rw [ARN hg.w l1 l2 hT] at hz
 refine ⟨⟨(Ze hg.w).ok, λ i hi => ?_, λ i hi => Y2 hz hi, (oQ hg.w l1 l2 hT).1 h.unb⟩, JF⟩
 have := gC hg (JF (T := T)) i hi
 omega
theorem AMX (h : AB N = 0) {d : Desk} (hl : Alike (AO N) d) (hi : InS d) : Can N (AW d) := by
 obtain ⟨a, b, c⟩ := AQQ h hl (λ i hi' => by have := hi.now i hi'; have := hi.sp i hi'; omega) hi.zero
 exact ⟨a, b, c.trans (AUP hi.now)⟩
theorem BGV (h : Can N T) : EV N = 0 := by
 have h1 := BDA h.ask h.unb
 have h2 := TJ (Ux h.ask).1
 have := h.cost
 omega
theorem BBX (h : AB N = 0) (hc : EV N = 0) : Can N (S1 N) := by
 obtain ⟨a, b, c⟩ := ALV h
 exact ⟨a, b, c.trans hc⟩
def balN (N : NetL) (T : TruthL) (s : Nat) : Int := gD T.t s + DG N.r.length λ i => bS s (gD N.r i) (gD T.f i)
theorem BLZ (hg : GoodW N) (h1 : T.f.length = N.r.length) (h2 : T.t.length = N.g.length) (hT : Tk T) {s : Nat} (hs : s < N.g.length) : qT N T s = balN N T s := by
 have := hg.r14
 unfold qT balN
 exact AAI (B := 100000000) (by omega) s N.r T.f (gD T.t s) 100000000 h1.symm hT.1 (hT.2 s (by omega)) (by omega)
theorem yT (hg : GoodW N) (h1 : T.f.length = N.r.length) (h2 : T.t.length = N.g.length) (hT : Tk T) : Li N T = [] ↔ ∀ s, s < N.g.length -> balN N T s = 0 := by
 unfold Li KR
 rw [List.map_eq_nil_iff, List.filter_eq_nil_iff]
 simp only [List.mem_range, Er, Bool.not_eq_true', decide_eq_false_iff_not, Decidable.not_not]
 constructor
 ·intro h s hs; rw [<- BLZ hg h1 h2 hT hs]; exact h s hs
 ·intro h s hs; rw [BLZ hg h1 h2 hT hs]; exact h s hs
theorem bR (h : AB N = 0) : Can N T ↔ (T.f.length = N.r.length /\ T.t.length = N.g.length) /\ (∀ i, i < N.r.length -> (gD N.r i).sp.lo <= gD T.f i /\ gD T.f i <= (gD N.r i).sp.hi) /\ (∀ j, j < N.g.length -> (gD N.g j).lo <= gD T.t j /\ gD T.t j <= (gD N.g j).hi) /\ ∀ s, s < N.g.length -> balN N T s = 0 := by
 have hg := BB h
 constructor
 ·intro hC
  obtain ⟨_, l1, l2, hT⟩ := Ux hC.ask
  obtain ⟨hi, _⟩ := lS hC
  refine ⟨⟨l1, l2⟩, λ i hi' => ?_, λ j hj => ?_, (yT hg.w l1 l2 hT).1 hC.unb⟩
  ·have := hi.now i (by rw [EB]; omega)
   rw [NK hi'] at this; exact this
  ·have := hi.now (N.r.length + j) (by rw [EB]; omega)
   rw [OU hj] at this; exact this
 ·rintro ⟨⟨l1, l2⟩, h1, h2, h3⟩
  have hT : Tk T := ⟨λ i hi => by have := h1 i (by omega); have := (hg.r i (by omega)).1; omega, λ i hi => by have := h2 i (by omega); have := hg.g i (by omega); omega⟩
  refine ⟨AZE h l1 l2 hT, (yT hg.w l1 l2 hT).2 h3, ?_⟩
  rw [ARN hg.w l1 l2 hT]
  refine AUP λ i hi => ?_
  rw [EB] at hi
  revert i
  refine QQ (λ i hi => ?_) (λ j hj => ?_)
  ·rw [NK hi]; exact h1 i hi
  ·rw [OU hj]; exact h2 j hj
theorem BBW (h : AB N = 0) {i : Nat} (hi : i < N.r.length) : gD (Zj N) i = (JM (AI N) i).getD default := by
 obtain ⟨h2, _⟩ := BY h
 obtain ⟨l1, l2, l3⟩ := VX h2
 unfold Zj
 have : gD ((Uv (AI N)).take (AI N).nR) i = gD (Uv (AI N)) i := by
  simp only [gD, List.getD_eq_getElem?_getD]; rw [List.getElem?_take_of_lt (by omega)]
 rw [this]; exact DY (λ (i : Nat) => (JM (AI N) i).getD default) (by omega)
theorem BLL (h : AB N = 0) {j : Nat} (hj : j < N.g.length) : gD (qL N) j = (JM (AI N) ((N.r.length + j : Nat) : Int)).getD default := by
 obtain ⟨h2, _⟩ := BY h
 obtain ⟨l1, l2, l3⟩ := VX h2
 unfold qL
 have : gD ((Uv (AI N)).drop (AI N).nR) j = gD (Uv (AI N)) ((AI N).nR + j) := by
  simp only [gD, List.getD_eq_getElem?_getD, List.getElem?_drop]
 rw [this, l3]; exact DY (λ (i : Nat) => (JM (AI N) i).getD default) (by omega)
theorem AXP (h : AB N = 0) : (Zj N).length = N.r.length /\ (qL N).length = N.g.length := by
 obtain ⟨h2, _⟩ := BY h
 obtain ⟨l1, l2, l3⟩ := VX h2
 constructor
 ·simp [Zj, Uv]; omega
 ·simp [qL, Uv]; omega
structure IsSpan (N : NetL) (f : TruthL -> Int) (s : Span) : Prop where
 lo : ∃ T, Can N T /\ f T = s.lo
 hi : ∃ T, Can N T /\ f T = s.hi
 all : ∀ T, Can N T -> s.lo <= f T /\ f T <= s.hi
theorem IsSpan.uniq {f : TruthL -> Int} {s t : Span} (h : IsSpan N f s) (k : IsSpan N f t) : s = t := by
 obtain ⟨T1, c1, e1⟩ := h.lo
 obtain ⟨T2, c2, e2⟩ := h.hi
 obtain ⟨T3, c3, e3⟩ := k.lo
 obtain ⟨T4, c4, e4⟩ := k.hi
 have := k.all T1 c1
 have := k.all T2 c2
 have := h.all T3 c3
 have := h.all T4 c4
 obtain ⟨a, b⟩ := s
 obtain ⟨c, d⟩ := t
 simp only at *
 rw [show a = c by omega, show b = d by omega]
theorem IsSpan.le {f : TruthL -> Int} {s : Span} (h : IsSpan N f s) : s.lo <= s.hi := by
 obtain ⟨T1, c1, e1⟩ := h.lo
 have := h.all T1 c1
 omega
theorem ACW (h : AB N = 0) (hc : EV N = 0) {i : Nat} (hi : i < N.r.length + N.g.length) : (JM (AI N) i).isSome = true /\ IsSpan N (λ T => (gD (AV N T).all i).now) ((JM (AI N) i).getD default) := by
 obtain ⟨h2, π, hs⟩ := BY h
 obtain ⟨l1, l2, l3⟩ := VX h2
 obtain ⟨s, dl, dh, e, ⟨il, al, nl⟩, ⟨ih, ah, nh⟩, ha⟩ := BGR h (by omega) (i := i) (by omega)
 rw [e]
 have hL := hs.like
 refine ⟨rfl, ⟨AW dl, AMX h (hL.trans al) il, ?_⟩, ⟨AW dh, AMX h (hL.trans ah) ih, ?_⟩, λ T hT => ?_⟩
 ·show (gD (AV N (AW dl)).all i).now = s.lo
  rw [WP (hL.trans al)]; exact nl
 ·show (gD (AV N (AW dh)).all i).now = s.hi
  rw [WP (hL.trans ah)]; exact nh
 ·obtain ⟨i1, a1⟩ := lS hT
  exact ha _ i1 (Cl hL a1)
theorem BCR (h : AB N = 0) (hc : EV N = 0) : ∀ i : Nat, i < (AI N).all.length -> (JM (AI N) i).isSome = true := λ i hi => by
 obtain ⟨h2, _⟩ := BY h
 obtain ⟨l1, l2, l3⟩ := VX h2
 exact (ACW h hc (by omega)).1
theorem AIK (h : AB N = 0) (hc : EV N = 0) {i : Nat} (hi : i < N.r.length) : IsSpan N (λ T => gD T.f i) (gD (Zj N) i) := by
 have := (ACW h hc (i := i) (by omega)).2
 rw [<- BBW h hi] at this
 have e : (λ T => (gD (AV N T).all i).now) = λ T => gD T.f i := by funext T; rw [NK hi]
 rw [e] at this; exact this
end Go.Bal
