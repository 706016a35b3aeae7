/- Package balance: what a group gains. -/
import Derived.Test.YtonddbmhljelgaaBalT15
set_option linter.unusedVariables false
set_option linter.unusedSimpArgs false
namespace Go.Bal
open Go
variable {N : NetL} {T : TruthL}
theorem grp_iff {n : Nat} (hn : 1 ≤ n ∧ n ≤ 8) : ∀ (l : List Int) (last : Int), -1 ≤ last → last ≤ 100 → (grpBad n last l = false ↔ (∀ x ∈ l, last < x ∧ x < n) ∧ l.Pairwise (· < ·))
  | [], last, _, _ => by simp [grpBad]
  | s :: l, last, h0, h1 => by
    simp only [grpBad, Bool.or_eq_false_iff, Bool.not_eq_false', inM_iff]
    rw [wr_id (n := last + 1) (by omega) (by omega), wr_id (n := (n : Int) - 1) (by omega) (by omega), List.pairwise_cons]
    constructor
    · rintro ⟨h2, h3⟩
      obtain ⟨h4, h5⟩ := (grp_iff hn l s (by omega) (by omega)).1 h3
      refine ⟨fun x hx => ?_, fun x hx => (h4 x hx).1, h5⟩
      rcases List.mem_cons.1 hx with rfl | hx
      · omega
      · have := h4 x hx; omega
    · rintro ⟨h2, h3, h4⟩
      have hs := h2 s (by simp)
      exact ⟨by omega, (grp_iff hn l s (by omega) (by omega)).2 ⟨fun x hx => ⟨h3 x hx, (h2 x (by simp [hx])).2⟩, h4⟩⟩
structure Grp (n : Nat) (st : List Int) : Prop where
  mem : ∀ x ∈ st, 0 ≤ x ∧ x < n
  inc : st.Pairwise (· < ·)
theorem grp_of {n : Nat} (hn : 1 ≤ n ∧ n ≤ 8) {st : List Int} : grpBad n (-1) st = false ↔ Grp n st := by
  rw [grp_iff hn st (-1) (by omega) (by omega)]
  constructor
  · rintro ⟨a, b⟩; exact ⟨fun x hx => by have := a x hx; omega, b⟩
  · rintro ⟨a, b⟩; exact ⟨fun x hx => by have := a x hx; omega, b⟩
def grpN (nR : Nat) (all : List Way) (st : List Int) : Int := sumL (fun s => (gD all (nR + s.toNat)).now) st
theorem grpAll_spec {out nR n : Nat} (ho : out ≤ 8) (hR : nR ≤ 14) (hn : n ≤ 8) : ∀ (st : List Int) (all : List Way) (t K : Int), Grp n st → nR + n ≤ all.length → (∀ j, j < n → (gD all (nR + j)).fr = out ∨ ∀ x ∈ st, x ≠ j) → (∀ j, j < n → -1000000000 ≤ (gD all (nR + j)).now ∧ (gD all (nR + j)).now ≤ 1000000000) → -K ≤ t ∧ t ≤ K → K + 1000000000 * st.length ≤ 1000000000000000 →
    (grpAll out nR st all t).2 = t + grpN nR all st ∧ (grpAll out nR st all t).1.length = all.length ∧ (∀ v, exc v (grpAll out nR st all t).1 = exc v all + ind v out (grpN nR all st) - ind v ((out : Int) + 1) (grpN nR all st)) ∧
    ∀ i, gD (grpAll out nR st all t).1 i = if ∃ x ∈ st, (i : Int) = nR + x then { (gD all i) with fr := (out : Int) + 1 } else gD all i
  | [], all, t, K, _, _, _, _, _, _ => by simp [grpAll, grpN, sumL, ind]
  | s :: l, all, t, K, hg, hl, hf, hb, ht, hK => by
    obtain ⟨hs0, hs1⟩ := hg.mem s (by simp)
    obtain ⟨hp, hpl⟩ := List.pairwise_cons.1 hg.inc
    have e1 : wr ((nR : Int) + s) = nR + s := wr_id (by omega) (by omega)
    have e2 : wr ((out : Int) + 1) = out + 1 := wr_id (by omega) (by omega)
    have e3 : ((nR : Int) + s).toNat = nR + s.toNat := by omega
    have hi : nR + s.toNat < all.length := by omega
    have hbs := hb s.toNat (by omega)
    rw [List.length_cons] at hK
    have e4 : wr (t + (gD all (nR + s.toNat)).now) = t + (gD all (nR + s.toNat)).now := wr_id (by omega) (by omega)
    have hgm : ∀ i, gD (all.modify (nR + s.toNat) fun w => { w with fr := (out : Int) + 1 }) i = if i = nR + s.toNat then { (gD all (nR + s.toNat)) with fr := (out : Int) + 1 } else gD all i := fun i => gD_modify hi i
    have hne : ∀ x ∈ l, x ≠ s := fun x hx => by have := hp x hx; omega
    have hsum : grpN nR (all.modify (nR + s.toNat) fun w => { w with fr := (out : Int) + 1 }) l = grpN nR all l := sumL_congr fun x hx => by
      have := hg.mem x (by simp [hx])
      have := hne x hx
      show (gD (all.modify _ _) _).now = _
      rw [hgm, if_neg (by omega)]
    have hfs : (gD all (nR + s.toNat)).fr = out := (hf s.toNat (by omega)).resolve_right fun h => h s (by simp) (by omega)
    obtain ⟨a, b, c, d⟩ := grpAll_spec ho hR hn l (all.modify (nR + s.toNat) fun w => { w with fr := (out : Int) + 1 }) (t + (gD all (nR + s.toNat)).now) (K + 1000000000) ⟨fun x hx => hg.mem x (by simp [hx]), hpl⟩ (by rw [List.length_modify]; exact hl) (fun j hj => by
      rw [hgm]
      by_cases he : nR + j = nR + s.toNat
      · right; intro x hx; have := hp x hx; omega
      · rw [if_neg he]
        rcases hf j hj with h | h
        · exact .inl h
        · exact .inr fun x hx => h x (by simp [hx])) (fun j hj => by
      rw [hgm]
      by_cases he : nR + j = nR + s.toNat
      · rw [if_pos he]; exact hbs
      · rw [if_neg he]; exact hb j hj) (by omega) (by omega)
    simp only [grpAll, e1, e2, e3, e4]
    rw [hsum] at a c
    have hcons : grpN nR all (s :: l) = (gD all (nR + s.toNat)).now + grpN nR all l := rfl
    refine ⟨by rw [a, hcons]; omega, by rw [b, List.length_modify], fun v => ?_, fun i => ?_⟩
    · rw [c, exc_modify' v _ (ind v out (gD all (nR + s.toNat)).now - ind v ((out : Int) + 1) (gD all (nR + s.toNat)).now) all _ hi]
      · rw [hcons]
        unfold ind
        by_cases h1 : (out : Int) = v
        · have h2 : ¬ (out : Int) + 1 = v := by omega
          simp only [if_pos h1, if_neg h2]; omega
        · by_cases h2 : (out : Int) + 1 = v
          · simp only [if_neg h1, if_pos h2]; omega
          · simp only [if_neg h1, if_neg h2]; omega
      · unfold excW ind
        simp only [hfs]
        by_cases h1 : (out : Int) = v
        · have h2 : ¬ (out : Int) + 1 = v := by omega
          simp only [if_pos h1, if_neg h2]; omega
        · simp only [if_neg h1]; omega
    · rw [d]
      by_cases h1 : ∃ x ∈ l, (i : Int) = nR + x
      · obtain ⟨x, hx, he⟩ := h1
        have := hne x hx
        rw [if_pos ⟨x, hx, he⟩, if_pos ⟨x, by simp [hx], he⟩, hgm, if_neg (by have := hg.mem x (by simp [hx]); omega)]
      · rw [if_neg h1, hgm]
        by_cases h2 : i = nR + s.toNat
        · subst h2
          rw [if_pos rfl, if_pos ⟨s, by simp, by omega⟩]
        · rw [if_neg h2, if_neg]
          rintro ⟨x, hx, he⟩
          rcases List.mem_cons.1 hx with rfl | hx
          · exact h2 (by omega)
          · exact h1 ⟨x, hx, he⟩
theorem exc_append (v : Int) : ∀ l m : List Way, exc v (l ++ m) = exc v l + exc v m
  | [], m => by simp [exc]
  | w :: l, m => by simp only [List.cons_append, exc, exc_append v l m]; omega
structure GD (N : NetL) (st : List Int) (d : Desk) : Prop where
  len : (groupD d st).all.length = d.all.length + 1
  out : (groupD d st).out = d.out
  nR : (groupD d st).nR = d.nR
  way : ∀ i, i < d.all.length → gD (groupD d st).all i = if ∃ x ∈ st, (i : Int) = d.nR + x then { (gD d.all i) with fr := (d.out : Int) + 1 } else gD d.all i
  last : gD (groupD d st).all d.all.length = ⟨d.out, d.out + 1, ⟨-100000000, 100000000⟩, grpN d.nR d.all st⟩
  exc : ∀ v, exc v (groupD d st).all = exc v d.all
theorem group_desk (hg : Good N) {st : List Int} (hs : Grp N.g.length st) (hs8 : st.length ≤ 1000) {d : Desk} (hl : Alike (begunM N) d) (hb : ∀ i, i < d.all.length → -1000000000 ≤ (gD d.all i).now ∧ (gD d.all i).now ≤ 1000000000) : GD N st d := by
  obtain ⟨e1, e2, e3⟩ := like_sp hl
  have hnR : d.nR = N.r.length := hl.nR
  have hout : d.out = N.g.length := hl.out
  have h8 := hg.g8
  have h14 := hg.r14
  obtain ⟨a, b, c, f⟩ := grpAll_spec (out := d.out) (nR := d.nR) (n := N.g.length) (by omega) (by omega) h8 st d.all 0 0 hs (by omega) (fun j hj => .inl (by rw [hnR, (e3 j hj).2.1, hout])) (fun j hj => hb _ (by omega)) (by omega) (by omega)
  have hX : (groupD d st).all = (grpAll d.out d.nR st d.all 0).1 ++ [(⟨d.out, wr (d.out + 1), ⟨-100000000, 100000000⟩, (grpAll d.out d.nR st d.all 0).2⟩ : Way)] := rfl
  have ew : wr ((d.out : Int) + 1) = d.out + 1 := wr_id (by omega) (by omega)
  rw [ew, a, Int.zero_add] at hX
  refine ⟨by rw [hX, List.length_append, b]; rfl, rfl, rfl, fun i hi => ?_, ?_, fun v => ?_⟩
  · rw [hX, gD_append, b, if_pos hi, f]
  · rw [hX, gD_append, b, if_neg (by omega), Nat.sub_self]; rfl
  · rw [hX, exc_append, c]
    simp only [exc, excW, ind]
    by_cases h1 : (d.out : Int) = v
    · have h2 : ¬ (d.out : Int) + 1 = v := by omega
      simp only [if_pos h1, if_neg h2]; omega
    · simp only [if_neg h1]; omega
def grpV (st : List Int) (T : TruthL) : Int := sumL (fun s => gD T.t s.toNat) st
theorem grpN_truth {st : List Int} (hs : Grp N.g.length st) : grpN N.r.length (deskT N T).all st = grpV st T := sumL_congr fun x hx => by
  have := hs.mem x hx
  show (gD (deskT N T).all _).now = _
  rw [deskT_hi (by omega)]
theorem grp_len {n : Nat} {st : List Int} (hs : Grp n st) : st.length ≤ n := by
  refine pigeon n st ?_ fun x hx => by have := hs.mem x hx; omega
  exact hs.inc.imp fun h => by omega
theorem grpV_bd {st : List Int} (hs : Grp N.g.length st) (h8 : N.g.length ≤ 8) (hb : ∀ j, j < N.g.length → -1000000 ≤ gD T.t j ∧ gD T.t j ≤ 1000000) : -8000000 ≤ grpV st T ∧ grpV st T ≤ 8000000 := by
  have hl := grp_len hs
  have c1 : sumL (fun s => gD T.t s.toNat) st ≤ 1000000 * st.length := sumL_cap fun x hx => by
    have := hs.mem x hx; exact (hb x.toNat (by omega)).2
  have c2 : sumL (fun s => -gD T.t s.toNat) st ≤ 1000000 * st.length := sumL_cap fun x hx => by
    have := hs.mem x hx; have := (hb x.toNat (by omega)).1; omega
  have c3 := sumL_add (fun s : Int => gD T.t s.toNat) (fun s => -gD T.t s.toNat) st
  have c4 : sumL (fun s : Int => gD T.t s.toNat + -gD T.t s.toNat) st = 0 := by
    rw [sumL_congr (g := fun _ => 0) fun x _ => by omega, sumL_idx, sumN_zero]
  unfold grpV
  omega
theorem group_in (hC : Can N T) {st : List Int} (hs : Grp N.g.length st) : InS (groupD (deskT N T) st) := by
  obtain ⟨hc, l1, l2, hT⟩ := askM_to hC.ask
  have hg := good_of hc
  have h8 := hg.g8
  have h14 := hg.r14
  obtain ⟨hi, hl⟩ := can_in hC
  have hlen : (deskT N T).all.length = N.r.length + N.g.length := deskT_len
  have hsp := like_spans hg hl
  obtain ⟨g1, g2, g3, g4, g5, g6⟩ := group_desk hg hs (by have := grp_len hs; omega) hl (fun i hi' => by have := hi.now i hi'; have := hsp i hi'; omega)
  have hbd : -8000000 ≤ grpV st T ∧ grpV st T ≤ 8000000 := grpV_bd hs h8 fun j hj => by
    have h1 := ((can_iff hc).1 hC).2.2.1 j hj
    have := hg.g j hj
    omega
  have hval : grpN (deskT N T).nR (deskT N T).all st = grpV st T := grpN_truth hs
  refine ⟨groupD_ok hi.ok (by omega) st, fun i hi' => ?_, fun i hi' => ?_, fun v hv => by rw [g6]; exact hi.zero v hv⟩
  · rw [g1] at hi'
    by_cases he : i < (deskT N T).all.length
    · rw [g4 i he]
      have := hi.sp i he
      split <;> exact this
    · rw [show i = (deskT N T).all.length by omega, g5]; simp only; omega
  · rw [g1] at hi'
    by_cases he : i < (deskT N T).all.length
    · rw [g4 i he]
      have := hi.now i he
      split <;> exact this
    · rw [show i = (deskT N T).all.length by omega, g5, hval]; simp only; omega
theorem group_alike (hg : Good N) {st : List Int} (hs : Grp N.g.length st) {d1 d2 : Desk} (h1 : Alike (begunM N) d1) (h2 : Alike (begunM N) d2) (b1 : ∀ i, i < d1.all.length → -1000000000 ≤ (gD d1.all i).now ∧ (gD d1.all i).now ≤ 1000000000) (b2 : ∀ i, i < d2.all.length → -1000000000 ≤ (gD d2.all i).now ∧ (gD d2.all i).now ≤ 1000000000) : Alike (groupD d1 st) (groupD d2 st) := by
  have h8 := hg.g8
  have a := alike_back h1 h2
  obtain ⟨g1, g2, g3, g4, g5, _⟩ := group_desk hg hs (by have := grp_len hs; omega) h1 b1
  obtain ⟨k1, k2, k3, k4, k5, _⟩ := group_desk hg hs (by have := grp_len hs; omega) h2 b2
  refine ⟨by rw [g2, k2]; exact a.out, by rw [g3, k3]; exact a.nR, by rw [g1, k1, a.len], fun i hi => ?_⟩
  rw [g1] at hi
  have hl := a.len
  by_cases he : i < d1.all.length
  · rw [g4 i he, k4 i (by omega), a.nR, a.out]
    obtain ⟨q1, q2, q3⟩ := a.way i he
    split
    · exact ⟨rfl, q2, q3⟩
    · exact ⟨q1, q2, q3⟩
  · have e : i = d1.all.length := by omega
    subst e
    rw [g5, show d1.all.length = d2.all.length by omega, k5, a.out]
    exact ⟨rfl, rfl, rfl⟩
theorem group_back (h : checkL N = 0) (hc : setC N = 0) {st : List Int} (hs : Grp N.g.length st) {d' : Desk} (hi : InS d') (hl : Alike (groupD (setD N) st) d') : ∃ T, Can N T ∧ (gD d'.all (setD N).all.length).now = grpV st T := by
  have hg := good_of h
  have h8 := hg.g8
  have h14 := hg.r14
  obtain ⟨π, hf, hz, hL, hsome⟩ := set_fit h
  obtain ⟨e1, e2, e3⟩ := like_sp hL
  obtain ⟨g1, g2, g3, g4, g5, g6⟩ := group_desk hg hs (by have := grp_len hs; omega) hL (fun i hi' => by have := set_small h hi'; omega)
  have hnR : (setD N).nR = N.r.length := hL.nR
  have hout : (setD N).out = N.g.length := hL.out
  have hlen' : d'.all.length = N.r.length + N.g.length + 1 := by rw [hl.len, g1, e1]
  let T : TruthL := ⟨(List.range N.r.length).map fun i => (gD d'.all i).now, (List.range N.g.length).map fun j => (gD d'.all (N.r.length + j)).now⟩
  have tf : ∀ i, i < N.r.length → gD T.f i = (gD d'.all i).now := fun i hi => gD_range (fun i => (gD d'.all i).now) hi
  have tt : ∀ j, j < N.g.length → gD T.t j = (gD d'.all (N.r.length + j)).now := fun j hj => gD_range (fun j => (gD d'.all (N.r.length + j)).now) hj
  have hl1 : T.f.length = N.r.length := by simp [T]
  have hl2 : T.t.length = N.g.length := by simp [T]
  have way : ∀ i, i < N.r.length + N.g.length → (gD d'.all i).to = (gD (setD N).all i).to ∧ (gD d'.all i).sp = (gD (setD N).all i).sp ∧ (gD d'.all i).fr = if ∃ x ∈ st, (i : Int) = N.r.length + x then (N.g.length : Int) + 1 else (gD (setD N).all i).fr := fun i hi => by
    obtain ⟨a, b, c⟩ := hl.way i (by rw [g1]; omega)
    rw [a, b, c, g4 i (by omega), hnR, hout]
    split <;> exact ⟨rfl, rfl, rfl⟩
  have now : ∀ i, i < N.r.length + N.g.length → (gD (deskT N T).all i).now = (gD d'.all i).now := by
    refine ways_all (fun i hi => ?_) (fun j hj => ?_)
    · rw [deskT_lo hi]; exact tf i hi
    · rw [deskT_hi hj]; exact tt j hj
  have inT : ∀ i, i < (deskT N T).all.length → (gD (deskT N T).all i).sp.lo ≤ (gD (deskT N T).all i).now ∧ (gD (deskT N T).all i).now ≤ (gD (deskT N T).all i).sp.hi := fun i hi' => by
    have hi2 : i < N.r.length + N.g.length := by rw [← deskT_len (N := N) (T := T)]; exact hi'
    have h1 := hi.now i (by omega)
    rw [(way i hi2).2.1] at h1
    have h2 := ((alike_back hL (deskT_like (T := T))).way i (by omega)).2.2
    rw [now i hi2, h2]; exact h1
  have hspT := like_spans hg (deskT_like (T := T))
  have hbT : ∀ i, i < (deskT N T).all.length → -1000000000 ≤ (gD (deskT N T).all i).now ∧ (gD (deskT N T).all i).now ≤ 1000000000 := fun i hi' => by have := inT i hi'; have := hspT i hi'; omega
  obtain ⟨k1, k2, k3, k4, k5, k6⟩ := group_desk hg hs (by have := grp_len hs; omega) (deskT_like (T := T)) hbT
  have hlT : (deskT N T).all.length = N.r.length + N.g.length := deskT_len
  -- the same ways, but for what passes the gate
  have hX : d'.all = (groupD (deskT N T) st).all.set (N.r.length + N.g.length) (gD d'.all (N.r.length + N.g.length)) := by
    refine gD_ext (by rw [List.length_set, k1]; omega) fun i hi' => ?_
    rw [gD_set (by omega)]
    by_cases he : i = N.r.length + N.g.length
    · rw [if_pos he, he]
    · rw [if_neg he, k4 i (by omega)]
      have hi2 : i < N.r.length + N.g.length := by omega
      obtain ⟨a, b, c⟩ := way i hi2
      obtain ⟨p, q, r⟩ := (alike_back hL (deskT_like (T := T))).way i (by omega)
      have n := now i hi2
      have hnr' : (deskT N T).nR = N.r.length := rfl
      have hot' : (deskT N T).out = N.g.length := rfl
      rw [hnr', hot']
      cases hq : gD d'.all i with | mk x1 x2 x3 x4 =>
      rw [hq] at a b c n
      simp only at a b c n
      cases hw : gD (deskT N T).all i with | mk y1 y2 y3 y4 =>
      rw [hw] at p q r n
      simp only at p q r n
      split
      · rename_i hx
        rw [if_pos hx] at c
        show Way.mk x1 x2 x3 x4 = Way.mk ((N.g.length : Int) + 1) y2 y3 y4
        rw [q, r, n, ← a, ← b, c]
      · rename_i hx
        rw [if_neg hx] at c
        rw [p, q, r, n, ← a, ← b, c]
  have hlast : gD (groupD (deskT N T) st).all (N.r.length + N.g.length) = ⟨N.g.length, N.g.length + 1, ⟨-100000000, 100000000⟩, grpV st T⟩ := by
    rw [← hlT, k5, show (deskT N T).nR = N.r.length from rfl, grpN_truth hs]; rfl
  have hl0 : (gD d'.all (N.r.length + N.g.length)).fr = N.g.length ∧ (gD d'.all (N.r.length + N.g.length)).to = N.g.length + 1 := by
    obtain ⟨a, b, c⟩ := hl.way (N.r.length + N.g.length) (by rw [g1]; omega)
    rw [a, b, ← e1, g5, hout]; exact ⟨rfl, rfl⟩
  have hLT := deskT_lay (T := T) hg.w
  have excd : ∀ v, exc v d'.all = exc v (deskT N T).all + (ind v ((N.g.length : Int) + 1) ((gD d'.all (N.r.length + N.g.length)).now - grpV st T) - ind v (N.g.length : Int) ((gD d'.all (N.r.length + N.g.length)).now - grpV st T)) := fun v => by
    have hm : d'.all = (groupD (deskT N T) st).all.modify (N.r.length + N.g.length) (fun _ => gD d'.all (N.r.length + N.g.length)) := by
      refine gD_ext (by rw [List.length_modify, k1]; omega) fun i hi' => ?_
      rw [gD_modify (by omega)]
      conv => lhs; rw [hX]
      rw [gD_set (by omega)]
    have := exc_modify' v (fun _ => gD d'.all (N.r.length + N.g.length)) (ind v ((N.g.length : Int) + 1) ((gD d'.all (N.r.length + N.g.length)).now - grpV st T) - ind v (N.g.length : Int) ((gD d'.all (N.r.length + N.g.length)).now - grpV st T)) (groupD (deskT N T) st).all (N.r.length + N.g.length) (by omega) (by
      rw [hlast]
      unfold excW ind
      simp only [hl0.1, hl0.2]
      by_cases h1 : (N.g.length : Int) + 1 = v
      · have h2 : ¬ (N.g.length : Int) = v := by omega
        simp only [if_pos h1, if_neg h2]; omega
      · by_cases h2 : (N.g.length : Int) = v
        · simp only [if_neg h1, if_pos h2]; omega
        · simp only [if_neg h1, if_neg h2]; omega)
    rw [k6] at this
    rw [← this, ← hm]
  have hgate : (gD d'.all (N.r.length + N.g.length)).now = grpV st T := by
    have h1 := hi.zero (N.g.length + 1) (by omega)
    have h2 : exc ((N.g.length + 1 : Nat) : Int) (deskT N T).all = 0 := hLT.zero (by show N.g.length < _; omega)
    rw [excd, h2] at h1
    unfold ind at h1
    rw [if_pos (by omega), if_neg (by omega)] at h1
    omega
  have hzT : ∀ v : Nat, v < 10 → exc v (deskT N T).all = 0 := fun v hv => by
    have h1 := hi.zero v hv
    rw [excd, hgate, Int.sub_self] at h1
    unfold ind at h1
    simpa using h1
  have hin : InS (deskT N T) := ⟨hLT.ok, fun i hi' => by have := hspT i hi'; omega, inT, hzT⟩
  refine ⟨T, ?_, by rw [e1]; exact hgate⟩
  have := in_can h deskT_like hin
  rw [truth_deskT hl1 hl2] at this
  exact this
theorem group_span (h : checkL N = 0) (hc : setC N = 0) {st : List Int} (hb : grpBad N.g.length (-1) st = false) :
    (spanV (groupD (setD N) st) (setD N).all.length).isSome = true ∧ IsSpan N (grpV st) (grpS ⟨N, st⟩) := by
  have hg := good_of h
  have h8 := hg.g8
  have hs : Grp N.g.length st := (grp_of ⟨hg.g1, h8⟩).1 hb
  obtain ⟨π, hf, hz, hL, hsome⟩ := set_fit h
  have hset := set_can h hc
  have hdt : deskT N (setT N) = setD N := deskT_truth hL
  have hsm : ∀ i, i < (setD N).all.length → -1000000000 ≤ (gD (setD N).all i).now ∧ (gD (setD N).all i).now ≤ 1000000000 := fun i hi => by have := set_small h hi; omega
  have hin := group_in hset hs
  rw [hdt] at hin
  obtain ⟨g1, _⟩ := group_desk hg hs (by have := grp_len hs; omega) hL hsm
  have val : ∀ d', InS d' → Alike (groupD (setD N) st) d' → ∃ T, Can N T ∧ (gD d'.all (setD N).all.length).now = grpV st T := fun d' i a => group_back h hc hs i a
  have bd : ∀ T, Can N T → -8000000 ≤ grpV st T ∧ grpV st T ≤ 8000000 := fun T hT => grpV_bd hs h8 fun j hj => by
    have h1 := ((can_iff h).1 hT).2.2.1 j hj
    have := hg.g j hj
    omega
  obtain ⟨s, dl, dh, e, ⟨il, al, nl⟩, ⟨ih, ah, nh⟩, ha⟩ := spanV_ok hin (at' := (setD N).all.length) (by omega) fun d' i a => by
    obtain ⟨T1, c1, v1⟩ := val d' i a
    obtain ⟨T2, c2, v2⟩ := val _ hin (Alike.refl _)
    have := bd T1 c1
    have := bd T2 c2
    omega
  have eg : grpS ⟨N, st⟩ = s := by
    show (spanV (groupD (setD N) st) (setD N).all.length).getD default = s
    rw [e]; rfl
  rw [e, eg]
  refine ⟨rfl, ?_, ?_, fun T hT => ?_⟩
  · obtain ⟨T1, c1, v1⟩ := val dl il al
    exact ⟨T1, c1, by rw [← v1, nl]⟩
  · obtain ⟨T1, c1, v1⟩ := val dh ih ah
    exact ⟨T1, c1, by rw [← v1, nh]⟩
  · obtain ⟨i1, a1⟩ := can_in hT
    have hbT : ∀ i, i < (deskT N T).all.length → -1000000000 ≤ (gD (deskT N T).all i).now ∧ (gD (deskT N T).all i).now ≤ 1000000000 := fun i hi' => by have := i1.now i hi'; have := i1.sp i hi'; omega
    have hlT : (deskT N T).all.length = (setD N).all.length := by rw [deskT_len, (like_sp hL).1]
    obtain ⟨_, _, _, _, k5, _⟩ := group_desk hg hs (by have := grp_len hs; omega) a1 hbT
    have := ha _ (group_in hT hs) (group_alike hg hs hL a1 hsm hbT)
    rw [← hlT, k5, show (deskT N T).nR = N.r.length from rfl, grpN_truth hs] at this
    exact this
end Go.Bal
