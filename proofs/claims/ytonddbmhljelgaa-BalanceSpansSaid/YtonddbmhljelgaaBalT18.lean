/- Package balance: what a group gains. -/
import Derived.Test.YtonddbmhljelgaaBalT15
set_option linter.unusedVariables false
set_option linter.unusedSimpArgs false
namespace Go.Bal
open Go
variable {N : NetL} {T : TruthL}
theorem Jo {n : Nat} (hn : 1 <= n /\ n <= 8) : ∀ (l : List Int) (last : Int), -1 <= last -> last <= 100 -> (grpBad n last l = false ↔ (∀ x ∈ l, last < x /\ x < n) /\ l.Pairwise (· < ·))
 | [], last, _, _ => by simp [grpBad]
 | s :: l, last, h0, h1 => by
  simp only [grpBad, Bool.or_eq_false_iff, Bool.not_eq_false', BI]
  rw [CF (n := last + 1) (by omega) (by omega), CF (n := (n : Int) - 1) (by omega) (by omega), List.pairwise_cons]
  constructor
  ·rintro ⟨h2, h3⟩
   obtain ⟨h4, h5⟩ := (Jo hn l s (by omega) (by omega)).1 h3
   refine ⟨λ x hx => ?_, λ x hx => (h4 x hx).1, h5⟩
   rcases List.mem_cons.1 hx with rfl | hx
   ·omega
   ·have := h4 x hx; omega
  ·rintro ⟨h2, h3, h4⟩
   have hs := h2 s (by simp)
   exact ⟨by omega, (Jo hn l s (by omega) (by omega)).2 ⟨λ x hx => ⟨h3 x hx, (h2 x (by simp [hx])).2⟩, h4⟩⟩
structure Grp (n : Nat) (st : List Int) : Prop where
 mem : ∀ x ∈ st, 0 <= x /\ x < n
 inc : st.Pairwise (· < ·)
theorem Ea {n : Nat} (hn : 1 <= n /\ n <= 8) {st : List Int} : grpBad n (-1) st = false ↔ Grp n st := by
 rw [Jo hn st (-1) (by omega) (by omega)]
 constructor
 ·rintro ⟨a, b⟩; exact ⟨λ x hx => by have := a x hx; omega, b⟩
 ·rintro ⟨a, b⟩; exact ⟨λ x hx => by have := a x hx; omega, b⟩
def Dx (nR : Nat) (all : List Way) (st : List Int) : Int := EV (λ s => (gD all (nR + s.toNat)).now) st
theorem ZA {out nR n : Nat} (ho : out <= 8) (hR : nR <= 14) (hn : n <= 8) : ∀ (st : List Int) (all : List Way) (t K : Int), Grp n st -> nR + n <= all.length -> (∀ j, j < n -> (gD all (nR + j)).fr = out ∨ ∀ x ∈ st, x ≠ j) -> (∀ j, j < n -> -1000000000 <= (gD all (nR + j)).now /\ (gD all (nR + j)).now <= 1000000000) -> -K <= t /\ t <= K -> K + 1000000000 * st.length <= 1000000000000000 ->
  (DD out nR st all t).2 = t + Dx nR all st /\ (DD out nR st all t).1.length = all.length /\ (∀ v, EF v (DD out nR st all t).1 = EF v all + ind v out (Dx nR all st) - ind v ((out : Int) + 1) (Dx nR all st)) /\
  ∀ i, gD (DD out nR st all t).1 i = if ∃ x ∈ st, (i : Int) = nR + x then { (gD all i) with fr := (out : Int) + 1 } else gD all i
 | [], all, t, K, _, _, _, _, _, _ => by simp [DD, Dx, EV, ind]
 | s :: l, all, t, K, hg, hl, hf, hb, ht, hK => by
  obtain ⟨hs0, hs1⟩ := hg.mem s (by simp)
  obtain ⟨hp, hpl⟩ := List.pairwise_cons.1 hg.inc
  have e1 : wr ((nR : Int) + s) = nR + s := CF (by omega) (by omega)
  have e2 : wr ((out : Int) + 1) = out + 1 := CF (by omega) (by omega)
  have e3 : ((nR : Int) + s).toNat = nR + s.toNat := by omega
  have hi : nR + s.toNat < all.length := by omega
  have hbs := hb s.toNat (by omega)
  rw [List.length_cons] at hK
  have e4 : wr (t + (gD all (nR + s.toNat)).now) = t + (gD all (nR + s.toNat)).now := CF (by omega) (by omega)
  have hgm : ∀ i, gD (all.modify (nR + s.toNat) λ w => { w with fr := (out : Int) + 1 }) i = if i = nR + s.toNat then { (gD all (nR + s.toNat)) with fr := (out : Int) + 1 } else gD all i := λ i => BB hi i
  have hne : ∀ x ∈ l, x ≠ s := λ x hx => by have := hp x hx; omega
  have hsum : Dx nR (all.modify (nR + s.toNat) λ w => { w with fr := (out : Int) + 1 }) l = Dx nR all l := JQ λ x hx => by
   have := hg.mem x (by simp [hx])
   have := hne x hx
   show (gD (all.modify _ _) _).now = _
   rw [hgm, if_neg (by omega)]
  have hfs : (gD all (nR + s.toNat)).fr = out := (hf s.toNat (by omega)).resolve_right λ h => h s (by simp) (by omega)
  obtain ⟨a, b, c, d⟩ := ZA ho hR hn l (all.modify (nR + s.toNat) λ w => { w with fr := (out : Int) + 1 }) (t + (gD all (nR + s.toNat)).now) (K + 1000000000) ⟨λ x hx => hg.mem x (by simp [hx]), hpl⟩ (by rw [List.length_modify]; exact hl) (λ j hj => by
   rw [hgm]
   by_cases he : nR + j = nR + s.toNat
   ·right; intro x hx; have := hp x hx; omega
   ·rw [if_neg he]
    rcases hf j hj with h | h
    ·exact .inl h
    ·exact .inr λ x hx => h x (by simp [hx])) (λ j hj => by
   rw [hgm]
   by_cases he : nR + j = nR + s.toNat
   ·rw [if_pos he]; exact hbs
   ·rw [if_neg he]; exact hb j hj) (by omega) (by omega)
  simp only [DD, e1, e2, e3, e4]
  rw [hsum] at a c
  have hcons : Dx nR all (s :: l) = (gD all (nR + s.toNat)).now + Dx nR all l := rfl
  refine ⟨by rw [a, hcons]; omega, by rw [b, List.length_modify], λ v => ?_, λ i => ?_⟩
  ·rw [c, KM v _ (ind v out (gD all (nR + s.toNat)).now - ind v ((out : Int) + 1) (gD all (nR + s.toNat)).now) all _ hi]
   ·rw [hcons]
    unfold ind
    by_cases h1 : (out : Int) = v
    ·have h2 : ¬ (out : Int) + 1 = v := by omega
     simp only [if_pos h1, if_neg h2]; omega
    ·by_cases h2 : (out : Int) + 1 = v
     ·simp only [if_neg h1, if_pos h2]; omega
     ·simp only [if_neg h1, if_neg h2]; omega
   ·unfold LU ind
    simp only [hfs]
    by_cases h1 : (out : Int) = v
    ·have h2 : ¬ (out : Int) + 1 = v := by omega
     simp only [if_pos h1, if_neg h2]; omega
    ·simp only [if_neg h1]; omega
  ·rw [d]
   by_cases h1 : ∃ x ∈ l, (i : Int) = nR + x
   ·obtain ⟨x, hx, he⟩ := h1
    have := hne x hx
    rw [if_pos ⟨x, hx, he⟩, if_pos ⟨x, by simp [hx], he⟩, hgm, if_neg (by have := hg.mem x (by simp [hx]); omega)]
   ·rw [if_neg h1, hgm]
    by_cases h2 : i = nR + s.toNat
    ·subst h2
     rw [if_pos rfl, if_pos ⟨s, by simp, by omega⟩]
    ·rw [if_neg h2, if_neg]
     rintro ⟨x, hx, he⟩
     rcases List.mem_cons.1 hx with rfl | hx
     ·exact h2 (by omega)
     ·exact h1 ⟨x, hx, he⟩
theorem Ek (v : Int) : ∀ l m : List Way, EF v (l ++ m) = EF v l + EF v m
 | [], m => by simp [EF]
 | w :: l, m => by simp only [List.cons_append, EF, Ek v l m]; omega
structure GD (N : NetL) (st : List Int) (d : Desk) : Prop where
 len : (CO d st).all.length = d.all.length + 1
 out : (CO d st).out = d.out
 nR : (CO d st).nR = d.nR
 way : ∀ i, i < d.all.length -> gD (CO d st).all i = if ∃ x ∈ st, (i : Int) = d.nR + x then { (gD d.all i) with fr := (d.out : Int) + 1 } else gD d.all i
 last : gD (CO d st).all d.all.length = ⟨d.out, d.out + 1, ⟨-100000000, 100000000⟩, Dx d.nR d.all st⟩
 EF : ∀ v, EF v (CO d st).all = EF v d.all
theorem FN (hg : Good N) {st : List Int} (hs : Grp N.g.length st) (hs8 : st.length <= 1000) {d : Desk} (hl : Alike (AJ N) d) (hb : ∀ i, i < d.all.length -> -1000000000 <= (gD d.all i).now /\ (gD d.all i).now <= 1000000000) : GD N st d := by
 obtain ⟨e1, e2, e3⟩ := EN hl
 have hnR : d.nR = N.r.length := hl.nR
 have hout : d.out = N.g.length := hl.out
 have h8 := hg.g8
 have h14 := hg.r14
 obtain ⟨a, b, c, f⟩ := ZA (out := d.out) (nR := d.nR) (n := N.g.length) (by omega) (by omega) h8 st d.all 0 0 hs (by omega) (λ j hj => .inl (by rw [hnR, (e3 j hj).2.1, hout])) (λ j hj => hb _ (by omega)) (by omega) (by omega)
 have hX : (CO d st).all = (DD d.out d.nR st d.all 0).1 ++ [(⟨d.out, wr (d.out + 1), ⟨-100000000, 100000000⟩, (DD d.out d.nR st d.all 0).2⟩ : Way)] := rfl
 have ew : wr ((d.out : Int) + 1) = d.out + 1 := CF (by omega) (by omega)
 rw [ew, a, Int.zero_add] at hX
 refine ⟨by rw [hX, List.length_append, b]; rfl, rfl, rfl, λ i hi => ?_, ?_, λ v => ?_⟩
 ·rw [hX, BO, b, if_pos hi, f]
 ·rw [hX, BO, b, if_neg (by omega), Nat.sub_self]; rfl
 ·rw [hX, Ek, c]
  simp only [EF, LU, ind]
  by_cases h1 : (d.out : Int) = v
  ·have h2 : ¬ (d.out : Int) + 1 = v := by omega
   simp only [if_pos h1, if_neg h2]; omega
  ·simp only [if_neg h1]; omega
def MX (st : List Int) (T : TruthL) : Int := EV (λ s => gD T.t s.toNat) st
theorem PH {st : List Int} (hs : Grp N.g.length st) : Dx N.r.length (AP N T).all st = MX st T := JQ λ x hx => by
 have := hs.mem x hx
 show (gD (AP N T).all _).now = _
 rw [EX (by omega)]
theorem IZ {n : Nat} {st : List Int} (hs : Grp n st) : st.length <= n := by
 refine Dl n st ?_ λ x hx => by have := hs.mem x hx; omega
 exact hs.inc.imp λ h => by omega
theorem Av {st : List Int} (hs : Grp N.g.length st) (h8 : N.g.length <= 8) (hb : ∀ j, j < N.g.length -> -1000000 <= gD T.t j /\ gD T.t j <= 1000000) : -8000000 <= MX st T /\ MX st T <= 8000000 := by
 have hl := IZ hs
 have c1 : EV (λ s => gD T.t s.toNat) st <= 1000000 * st.length := WW λ x hx => by
  have := hs.mem x hx; exact (hb x.toNat (by omega)).2
 have c2 : EV (λ s => -gD T.t s.toNat) st <= 1000000 * st.length := WW λ x hx => by
  have := hs.mem x hx; have := (hb x.toNat (by omega)).1; omega
 have c3 := XN (λ s : Int => gD T.t s.toNat) (λ s => -gD T.t s.toNat) st
 have c4 : EV (λ s : Int => gD T.t s.toNat + -gD T.t s.toNat) st = 0 := by
  rw [JQ (g := λ _ => 0) λ x _ => by omega, KT, HI]
 unfold MX
 omega
theorem XJ (hC : Can N T) {st : List Int} (hs : Grp N.g.length st) : InS (CO (AP N T) st) := by
 obtain ⟨hc, l1, l2, hT⟩ := NH hC.ask
 have hg := AS hc
 have h8 := hg.g8
 have h14 := hg.r14
 obtain ⟨hi, hl⟩ := SB hC
 have hlen : (AP N T).all.length = N.r.length + N.g.length := BT
 have hsp := QB hg hl
 obtain ⟨g1, g2, g3, g4, g5, g6⟩ := FN hg hs (by have := IZ hs; omega) hl (λ i hi' => by have := hi.now i hi'; have := hsp i hi'; omega)
 have hbd : -8000000 <= MX st T /\ MX st T <= 8000000 := Av hs h8 λ j hj => by
  have h1 := ((PD hc).1 hC).2.2.1 j hj
  have := hg.g j hj
  omega
 have hval : Dx (AP N T).nR (AP N T).all st = MX st T := PH hs
 refine ⟨Gi hi.ok (by omega) st, λ i hi' => ?_, λ i hi' => ?_, λ v hv => by rw [g6]; exact hi.zero v hv⟩
 ·rw [g1] at hi'
  by_cases he : i < (AP N T).all.length
  ·rw [g4 i he]
   have := hi.sp i he
   split <;> exact this
  ·rw [show i = (AP N T).all.length by omega, g5]; simp only; omega
 ·rw [g1] at hi'
  by_cases he : i < (AP N T).all.length
  ·rw [g4 i he]
   have := hi.now i he
   split <;> exact this
  ·rw [show i = (AP N T).all.length by omega, g5, hval]; simp only; omega
theorem Lp (hg : Good N) {st : List Int} (hs : Grp N.g.length st) {d1 d2 : Desk} (h1 : Alike (AJ N) d1) (h2 : Alike (AJ N) d2) (b1 : ∀ i, i < d1.all.length -> -1000000000 <= (gD d1.all i).now /\ (gD d1.all i).now <= 1000000000) (b2 : ∀ i, i < d2.all.length -> -1000000000 <= (gD d2.all i).now /\ (gD d2.all i).now <= 1000000000) : Alike (CO d1 st) (CO d2 st) := by
 have h8 := hg.g8
 have a := IK h1 h2
 obtain ⟨g1, g2, g3, g4, g5, _⟩ := FN hg hs (by have := IZ hs; omega) h1 b1
 obtain ⟨k1, k2, k3, k4, k5, _⟩ := FN hg hs (by have := IZ hs; omega) h2 b2
 refine ⟨by rw [g2, k2]; exact a.out, by rw [g3, k3]; exact a.nR, by rw [g1, k1, a.len], λ i hi => ?_⟩
 rw [g1] at hi
 have hl := a.len
 by_cases he : i < d1.all.length
 ·rw [g4 i he, k4 i (by omega), a.nR, a.out]
  obtain ⟨q1, q2, q3⟩ := a.way i he
  split
  ·exact ⟨rfl, q2, q3⟩
  ·exact ⟨q1, q2, q3⟩
 ·have e : i = d1.all.length := by omega
  subst e
  rw [g5, show d1.all.length = d2.all.length by omega, k5, a.out]
  exact ⟨rfl, rfl, rfl⟩
theorem VJ (h : AC N = 0) (hc : BK N = 0) {st : List Int} (hs : Grp N.g.length st) {d' : Desk} (hi : InS d') (hl : Alike (CO (AB N) st) d') : ∃ T, Can N T /\ (gD d'.all (AB N).all.length).now = MX st T := by
 have hg := AS h
 have h8 := hg.g8
 have h14 := hg.r14
 obtain ⟨π, hf, hz, hL, hsome⟩ := PE h
 obtain ⟨e1, e2, e3⟩ := EN hL
 obtain ⟨g1, g2, g3, g4, g5, g6⟩ := FN hg hs (by have := IZ hs; omega) hL (λ i hi' => by have := MB h hi'; omega)
 have hnR : (AB N).nR = N.r.length := hL.nR
 have hout : (AB N).out = N.g.length := hL.out
 have hlen' : d'.all.length = N.r.length + N.g.length + 1 := by rw [hl.len, g1, e1]
 let T : TruthL := ⟨(List.range N.r.length).map λ i => (gD d'.all i).now, (List.range N.g.length).map λ j => (gD d'.all (N.r.length + j)).now⟩
 have tf : ∀ i, i < N.r.length -> gD T.f i = (gD d'.all i).now := λ i hi => BZ (λ i => (gD d'.all i).now) hi
 have tt : ∀ j, j < N.g.length -> gD T.t j = (gD d'.all (N.r.length + j)).now := λ j hj => BZ (λ j => (gD d'.all (N.r.length + j)).now) hj
 have hl1 : T.f.length = N.r.length := by simp [T]
 have hl2 : T.t.length = N.g.length := by simp [T]
 have way : ∀ i, i < N.r.length + N.g.length -> (gD d'.all i).to = (gD (AB N).all i).to /\ (gD d'.all i).sp = (gD (AB N).all i).sp /\ (gD d'.all i).fr = if ∃ x ∈ st, (i : Int) = N.r.length + x then (N.g.length : Int) + 1 else (gD (AB N).all i).fr := λ i hi => by
  obtain ⟨a, b, c⟩ := hl.way i (by rw [g1]; omega)
  rw [a, b, c, g4 i (by omega), hnR, hout]
  split <;> exact ⟨rfl, rfl, rfl⟩
 have now : ∀ i, i < N.r.length + N.g.length -> (gD (AP N T).all i).now = (gD d'.all i).now := by
  refine FK (λ i hi => ?_) (λ j hj => ?_)
  ·rw [EL hi]; exact tf i hi
  ·rw [EX hj]; exact tt j hj
 have inT : ∀ i, i < (AP N T).all.length -> (gD (AP N T).all i).sp.lo <= (gD (AP N T).all i).now /\ (gD (AP N T).all i).now <= (gD (AP N T).all i).sp.hi := λ i hi' => by
  have hi2 : i < N.r.length + N.g.length := by rw [<- BT (N := N) (T := T)]; exact hi'
  have h1 := hi.now i (by omega)
  rw [(way i hi2).2.1] at h1
  have h2 := ((IK hL (DJ (T := T))).way i (by omega)).2.2
  rw [now i hi2, h2]; exact h1
 have hspT := QB hg (DJ (T := T))
 have hbT : ∀ i, i < (AP N T).all.length -> -1000000000 <= (gD (AP N T).all i).now /\ (gD (AP N T).all i).now <= 1000000000 := λ i hi' => by have := inT i hi'; have := hspT i hi'; omega
 obtain ⟨k1, k2, k3, k4, k5, k6⟩ := FN hg hs (by have := IZ hs; omega) (DJ (T := T)) hbT
 have hlT : (AP N T).all.length = N.r.length + N.g.length := BT
 -- the same ways, but for what passes the gate
 have hX : d'.all = (CO (AP N T) st).all.set (N.r.length + N.g.length) (gD d'.all (N.r.length + N.g.length)) := by
  refine JX (by rw [List.length_set, k1]; omega) λ i hi' => ?_
  rw [Wz (by omega)]
  by_cases he : i = N.r.length + N.g.length
  ·rw [if_pos he, he]
  ·rw [if_neg he, k4 i (by omega)]
   have hi2 : i < N.r.length + N.g.length := by omega
   obtain ⟨a, b, c⟩ := way i hi2
   obtain ⟨p, q, r⟩ := (IK hL (DJ (T := T))).way i (by omega)
   have n := now i hi2
   have hnr' : (AP N T).nR = N.r.length := rfl
   have hot' : (AP N T).out = N.g.length := rfl
   rw [hnr', hot']
   cases hq : gD d'.all i with | mk x1 x2 x3 x4 =>
   rw [hq] at a b c n
   simp only at a b c n
   cases hw : gD (AP N T).all i with | mk y1 y2 y3 y4 =>
   rw [hw] at p q r n
   simp only at p q r n
   split
   ·rename_i hx
    rw [if_pos hx] at c
    show Way.mk x1 x2 x3 x4 = Way.mk ((N.g.length : Int) + 1) y2 y3 y4
    rw [q, r, n, <- a, <- b, c]
   ·rename_i hx
    rw [if_neg hx] at c
    rw [p, q, r, n, <- a, <- b, c]
 have hlast : gD (CO (AP N T) st).all (N.r.length + N.g.length) = ⟨N.g.length, N.g.length + 1, ⟨-100000000, 100000000⟩, MX st T⟩ := by
  rw [<- hlT, k5, show (AP N T).nR = N.r.length from rfl, PH hs]; rfl
 have hl0 : (gD d'.all (N.r.length + N.g.length)).fr = N.g.length /\ (gD d'.all (N.r.length + N.g.length)).to = N.g.length + 1 := by
  obtain ⟨a, b, c⟩ := hl.way (N.r.length + N.g.length) (by rw [g1]; omega)
  rw [a, b, <- e1, g5, hout]; exact ⟨rfl, rfl⟩
 have hLT := OU (T := T) hg.w
 have excd : ∀ v, EF v d'.all = EF v (AP N T).all + (ind v ((N.g.length : Int) + 1) ((gD d'.all (N.r.length + N.g.length)).now - MX st T) - ind v (N.g.length : Int) ((gD d'.all (N.r.length + N.g.length)).now - MX st T)) := λ v => by
  have hm : d'.all = (CO (AP N T) st).all.modify (N.r.length + N.g.length) (λ _ => gD d'.all (N.r.length + N.g.length)) := by
   refine JX (by rw [List.length_modify, k1]; omega) λ i hi' => ?_
   rw [BB (by omega)]
   conv => lhs; rw [hX]
   rw [Wz (by omega)]
  have := KM v (λ _ => gD d'.all (N.r.length + N.g.length)) (ind v ((N.g.length : Int) + 1) ((gD d'.all (N.r.length + N.g.length)).now - MX st T) - ind v (N.g.length : Int) ((gD d'.all (N.r.length + N.g.length)).now - MX st T)) (CO (AP N T) st).all (N.r.length + N.g.length) (by omega) (by
   rw [hlast]
   unfold LU ind
   simp only [hl0.1, hl0.2]
   by_cases h1 : (N.g.length : Int) + 1 = v
   ·have h2 : ¬ (N.g.length : Int) = v := by omega
    simp only [if_pos h1, if_neg h2]; omega
   ·by_cases h2 : (N.g.length : Int) = v
    ·simp only [if_neg h1, if_pos h2]; omega
    ·simp only [if_neg h1, if_neg h2]; omega)
  rw [k6] at this
  rw [<- this, <- hm]
 have hgate : (gD d'.all (N.r.length + N.g.length)).now = MX st T := by
  have h1 := hi.zero (N.g.length + 1) (by omega)
  have h2 : EF ((N.g.length + 1 : Nat) : Int) (AP N T).all = 0 := hLT.zero (by show N.g.length < _; omega)
  rw [excd, h2] at h1
  unfold ind at h1
  rw [if_pos (by omega), if_neg (by omega)] at h1
  omega
 have hzT : ∀ v : Nat, v < 10 -> EF v (AP N T).all = 0 := λ v hv => by
  have h1 := hi.zero v hv
  rw [excd, hgate, Int.sub_self] at h1
  unfold ind at h1
  simpa using h1
 have hin : InS (AP N T) := ⟨hLT.ok, λ i hi' => by have := hspT i hi'; omega, inT, hzT⟩
 refine ⟨T, ?_, by rw [e1]; exact hgate⟩
 have := Jq h DJ hin
 rw [ZP hl1 hl2] at this
 exact this
theorem Eb (h : AC N = 0) (hc : BK N = 0) {st : List Int} (hb : grpBad N.g.length (-1) st = false) :
  (CX (CO (AB N) st) (AB N).all.length).isSome = true /\ IsSpan N (MX st) (NB ⟨N, st⟩) := by
 have hg := AS h
 have h8 := hg.g8
 have hs : Grp N.g.length st := (Ea ⟨hg.g1, h8⟩).1 hb
 obtain ⟨π, hf, hz, hL, hsome⟩ := PE h
 have hset := Qx h hc
 have hdt : AP N (Ai N) = AB N := GV hL
 have hsm : ∀ i, i < (AB N).all.length -> -1000000000 <= (gD (AB N).all i).now /\ (gD (AB N).all i).now <= 1000000000 := λ i hi => by have := MB h hi; omega
 have hin := XJ hset hs
 rw [hdt] at hin
 obtain ⟨g1, _⟩ := FN hg hs (by have := IZ hs; omega) hL hsm
 have val : ∀ d', InS d' -> Alike (CO (AB N) st) d' -> ∃ T, Can N T /\ (gD d'.all (AB N).all.length).now = MX st T := λ d' i a => VJ h hc hs i a
 have bd : ∀ T, Can N T -> -8000000 <= MX st T /\ MX st T <= 8000000 := λ T hT => Av hs h8 λ j hj => by
  have h1 := ((PD h).1 hT).2.2.1 j hj
  have := hg.g j hj
  omega
 obtain ⟨s, dl, dh, e, ⟨il, al, nl⟩, ⟨ih, ah, nh⟩, ha⟩ := Ko hin (at' := (AB N).all.length) (by omega) λ d' i a => by
  obtain ⟨T1, c1, v1⟩ := val d' i a
  obtain ⟨T2, c2, v2⟩ := val _ hin (Alike.refl _)
  have := bd T1 c1
  have := bd T2 c2
  omega
 have eg : NB ⟨N, st⟩ = s := by
  show (CX (CO (AB N) st) (AB N).all.length).getD default = s
  rw [e]; rfl
 rw [e, eg]
 refine ⟨rfl, ?_, ?_, λ T hT => ?_⟩
 ·obtain ⟨T1, c1, v1⟩ := val dl il al
  exact ⟨T1, c1, by rw [<- v1, nl]⟩
 ·obtain ⟨T1, c1, v1⟩ := val dh ih ah
  exact ⟨T1, c1, by rw [<- v1, nh]⟩
 ·obtain ⟨i1, a1⟩ := SB hT
  have hbT : ∀ i, i < (AP N T).all.length -> -1000000000 <= (gD (AP N T).all i).now /\ (gD (AP N T).all i).now <= 1000000000 := λ i hi' => by have := i1.now i hi'; have := i1.sp i hi'; omega
  have hlT : (AP N T).all.length = (AB N).all.length := by rw [BT, (EN hL).1]
  obtain ⟨_, _, _, _, k5, _⟩ := FN hg hs (by have := IZ hs; omega) a1 hbT
  have := ha _ (XJ hT hs) (Lp hg hs hL a1 hsm hbT)
  rw [<- hlT, k5, show (AP N T).nR = N.r.length from rfl, PH hs] at this
  exact this
end Go.Bal
