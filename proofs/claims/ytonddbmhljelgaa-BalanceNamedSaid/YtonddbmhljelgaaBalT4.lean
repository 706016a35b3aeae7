/- Package balance: a step of settling: less lies outside, and heights fit again. -/
import Derived.Test.YtonddbmhljelgaaBalT3
set_option linter.unusedVariables false
set_option linter.unusedSimpArgs false
namespace Go.Bal
open Go
variable {d : Desk} {c : Step → Bool} {fr : Int}
theorem src_eq (d : Desk) (s : Step) : srcM d s = if s.back then (gD d.all s.way.toNat).to else (gD d.all s.way.toNat).fr := by
  unfold srcM toM getW
  cases s.back <;> rfl
theorem to_eq (d : Desk) (s : Step) : toM d s = if s.back then (gD d.all s.way.toNat).fr else (gD d.all s.way.toNat).to := rfl
theorem exc_pushAll {q B : Int} (hB : B ≤ 3000000000) (hq : 0 ≤ q ∧ q ≤ B) (u : Int) : ∀ (l : List Step) (v : Int) (all : List Way), Tr d c fr v l → all.length = d.all.length → (l.map fun s => s.way).Nodup →
    (∀ i, i < all.length → ((gD all i).fr = (gD d.all i).fr ∧ (gD all i).to = (gD d.all i).to) ∧ -(2 * B) ≤ (gD all i).now ∧ (gD all i).now ≤ 2 * B) →
    (∀ i : Nat, (∃ s ∈ l, s.way = i) → -B ≤ (gD all i).now ∧ (gD all i).now ≤ B) → exc u (pushAll q all l) = exc u all + ind u v q - ind u fr q
  | [], v, all, ht, _, _, _, _ => by
    have ht : v = fr := ht
    subst ht
    simp only [pushAll]; omega
  | s :: l, v, all, ht, hl, hn, hs, hs2 => by
    obtain ⟨hc, hv, ht⟩ := ht
    have hws : 0 ≤ s.way ∧ s.way < all.length := by have := hc.1; omega
    rw [List.map_cons, List.nodup_cons] at hn
    have e := fun i => pushW_gD (q := q) hws (B := 2 * B) (by omega) (by omega) (fun i hi => (hs i hi).2) i
    have hk := hs s.way.toNat (by omega)
    have hh := hs2 s.way.toNat ⟨s, by simp, by omega⟩
    simp only [pushAll]
    rw [exc_pushAll hB hq u l (srcM d s) (pushW q all s) ht (by rw [pushW_len]; exact hl) hn.2 (fun i hi => by
      rw [pushW_len] at hi
      rw [e]
      split
      · rename_i he; subst he
        refine ⟨hk.1, ?_⟩
        unfold moveW; cases s.back <;> simp <;> omega
      · exact hs i hi) (fun i hi => by
      obtain ⟨t, ht', hte⟩ := hi
      rw [e, if_neg]
      · exact hs2 i ⟨t, by simp [ht'], hte⟩
      · intro he
        refine hn.1 (List.mem_map.2 ⟨t, ht', ?_⟩)
        show t.way = s.way
        omega)]
    rw [exc_pushW hws (B := 2 * B) (by omega) (by omega) hk.2]
    rw [hk.1.1, hk.1.2, ← hv, to_eq, src_eq]
    omega
def outside (d : Desk) : Int := sumN 10 fun v => max 0 (exc v d.all)
theorem outside_nonneg (d : Desk) : 0 ≤ outside d := by
  have := sumN_le (f := fun _ => 0) (g := fun v : Nat => max 0 (exc v d.all)) (n := 10) fun i _ => by omega
  rw [sumN_zero] at this
  exact this
theorem exc_le_outside (d : Desk) {v : Nat} (hv : v < 10) : exc v d.all ≤ outside d := by
  have := sumN_pos (f := fun v : Nat => max 0 (exc v d.all)) (n := 10) (k := v) (fun i _ => by omega) hv
  have e : (max 0 (exc v d.all) : Int) ≤ outside d := this
  omega
theorem exc_none : ∀ {l : List Way} {v : Int}, (∀ w ∈ l, w.fr ≠ v ∧ w.to ≠ v) → exc v l = 0
  | [], _, _ => rfl
  | w :: l, v, h => by
    have := h w (by simp)
    simp only [exc, excW]
    rw [if_neg this.2, if_neg this.1, exc_none fun x hx => h x (by simp [hx])]
    rfl
structure Alike (d d' : Desk) : Prop where
  out : d'.out = d.out
  nR : d'.nR = d.nR
  len : d'.all.length = d.all.length
  way : ∀ i, i < d.all.length → (gD d'.all i).fr = (gD d.all i).fr ∧ (gD d'.all i).to = (gD d.all i).to ∧ (gD d'.all i).sp = (gD d.all i).sp
theorem Alike.refl (d : Desk) : Alike d d := ⟨rfl, rfl, rfl, fun _ _ => ⟨rfl, rfl, rfl⟩⟩
theorem Alike.trans {d d' d'' : Desk} (h : Alike d d') (k : Alike d' d'') : Alike d d'' :=
  ⟨k.out.trans h.out, k.nR.trans h.nR, k.len.trans h.len, fun i hi => by
    obtain ⟨a, b, e⟩ := h.way i hi
    obtain ⟨a', b', e'⟩ := k.way i (by rw [h.len]; exact hi)
    exact ⟨a'.trans a, b'.trans b, e'.trans e⟩⟩
theorem Desk.ok.alike {d d' : Desk} (h : d.ok) (k : Alike d d') : d'.ok := by
  refine ⟨by rw [k.out]; exact h.out, by rw [k.len]; exact h.len, by rw [k.nR, k.out, k.len]; exact h.cut, fun i hi => ?_⟩
  rw [k.len] at hi
  obtain ⟨a, b, _⟩ := k.way i hi
  rw [a, b, k.out]
  exact h.ends i hi
theorem Lay.alike {d d' : Desk} (h : Lay d) (k : Alike d d') : Lay d' := by
  refine ⟨h.ok.alike k, fun i hi => ?_, fun i hi => ?_⟩
  · rw [k.len] at hi
    obtain ⟨a, b, _⟩ := k.way i hi
    rw [a, b, k.out]; exact h.ends i hi
  · rw [k.out] at hi
    obtain ⟨a, b, _⟩ := k.way (d.nR + i) (by have := h.ok.cut; omega)
    rw [k.nR, a, b, k.out]; exact h.gain i hi
structure Fit (d : Desk) (π : Int → Int) (M : Int) : Prop where
  lay : Lay d
  sp : ∀ i, i < d.all.length → -100000000 ≤ (gD d.all i).sp.lo ∧ (gD d.all i).sp.lo ≤ (gD d.all i).sp.hi ∧ (gD d.all i).sp.hi ≤ 100000000
  now : ∀ i, i < d.all.length → -(M - outside d) ≤ (gD d.all i).now ∧ (gD d.all i).now ≤ M - outside d
  opt : ∀ i, i < d.all.length → OptW (gD d.all i) (π (gD d.all i).to - π (gD d.all i).fr)
theorem Fit.small {π : Int → Int} {M : Int} (h : Fit d π M) (hM : M ≤ 3000000000) {i : Nat} (hi : i < d.all.length) : Small 3000000000 (gD d.all i) := by
  have := h.now i hi
  have := outside_nonneg d
  exact ⟨by omega, h.sp i hi⟩
theorem Fit.pot {π : Int → Int} {M : Int} (h : Fit d π M) (hM : M ≤ 3000000000) : Pot d c π := by
  intro s hs
  have hk : s.way.toNat < d.all.length := by have := hs.1; omega
  have := (optW_iff (h.small hM hk) (by omega) _).1 (h.opt _ hk)
  rw [to_eq, src_eq]
  show _ ≤ _ + (roomM (gD d.all s.way.toNat) s.back).1
  cases hb : s.back <;> simp only [Bool.false_eq_true, if_true, if_false] <;> omega
theorem Lay.walk (h : Lay d) (hfr : 0 ≤ fr ∧ fr ≤ d.out) {v : Int} (hv : 0 ≤ v ∧ v ≤ d.out) : ∃ a k, Walk d any fr v a k := by
  have hcut := h.ok.cut
  have up : ∃ a k, Walk d any fr d.out a k := by
    by_cases he : fr = d.out
    · rw [← he]; exact ⟨0, 0, .nil⟩
    · have g := h.gain fr.toNat (by omega)
      have w := Walk.step (d := d) (c := any) (fr := fr) (a := 0) (m := 0) ⟨((d.nR + fr.toNat : Nat) : Int), true⟩ (by
        rw [src_eq]
        simp only [if_true, Int.toNat_natCast]
        rw [g.2, Int.toNat_of_nonneg hfr.1]
        exact .nil) ⟨by constructor <;> simp only <;> omega, rfl⟩
      rw [to_eq] at w
      simp only [if_true, Int.toNat_natCast] at w
      rw [g.1] at w
      exact ⟨_, _, w⟩
  by_cases he : v = d.out
  · rw [he]; exact up
  · obtain ⟨a, k, w0⟩ := up
    have g := h.gain v.toNat (by omega)
    have w := Walk.step (d := d) (c := any) (fr := fr) (a := a) (m := k) ⟨((d.nR + v.toNat : Nat) : Int), false⟩ (by
      rw [src_eq]
      simp only [Bool.false_eq_true, if_false, Int.toNat_natCast]
      rw [g.1]
      exact w0) ⟨by constructor <;> simp only <;> omega, rfl⟩
    rw [to_eq] at w
    simp only [Bool.false_eq_true, if_false, Int.toNat_natCast] at w
    rw [g.2, Int.toNat_of_nonneg hv.1] at w
    exact ⟨_, _, w⟩
end Go.Bal
