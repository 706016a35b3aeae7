/- Package balance: what groups gain: all together nothing, a group and all others nothing, and what flows over the border. -/
import Derived.Test.YtonddbmhljelgaaBalT18
set_option linter.unusedVariables false
set_option linter.unusedSimpArgs false
namespace Go.Bal
open Go
variable {N : NetL} {T : TruthL}
theorem sumL_ite (x : Int) (q : Int) : ∀ {l : List Int}, l.Pairwise (· < ·) → sumL (fun s => if x = s then q else 0) l = if x ∈ l then q else 0
  | [], _ => by simp [sumL]
  | s :: l, h => by
    obtain ⟨h1, h2⟩ := List.pairwise_cons.1 h
    simp only [sumL]
    rw [sumL_ite x q h2]
    by_cases he : x = s
    · subst he
      have : x ∉ l := fun hm => by have := h1 x hm; omega
      rw [if_pos rfl, if_neg this, if_pos (by simp)]; omega
    · rw [if_neg he]
      by_cases hm : x ∈ l
      · rw [if_pos hm, if_pos (by simp [hm])]; omega
      · rw [if_neg hm, if_neg (by simp [he, hm])]; omega
theorem sumL_sumN {α : Type} (f : α → Nat → Int) (n : Nat) : ∀ l : List α, sumL (fun a => sumN n (f a)) l = sumN n fun i => sumL (fun a => f a i) l
  | [] => by simp only [sumL]; rw [sumN_zero]
  | a :: l => by
    simp only [sumL]
    rw [sumL_sumN f n l, sumN_add (f a) fun i => sumL (fun a => f a i) l]
theorem sumL_neg {α : Type} (f : α → Int) : ∀ l : List α, sumL (fun a => -f a) l = -sumL f l
  | [] => rfl
  | a :: l => by simp only [sumL, sumL_neg f l]; omega
def sideB (b : Int → Bool) (r : Reach) : Int := if b r.fr && !b r.to then 1 else if !b r.fr && b r.to then -1 else 0
def ovF (q : Int) (f : Int) : Int := if q = 1 then f else if q = -1 then -f else 0
def loF (q : Int) (s : Span) : Int := if q = 1 then s.lo else if q = -1 then -s.hi else 0
def hiF (q : Int) (s : Span) : Int := if q = 1 then s.hi else if q = -1 then -s.lo else 0
def inG (st : List Int) (x : Int) : Bool := decide (x ∈ st)
theorem side_sum {st : List Int} (hs : st.Pairwise (· < ·)) {r : Reach} (hne : r.fr ≠ r.to) (f : Int) : sumL (fun s => bS s r f) st = -ovF (sideB (inG st) r) f := by
  have e : ∀ s : Int, bS s r f = (if r.fr = s then -f else 0) + if r.to = s then f else 0 := fun s => by
    unfold bS
    by_cases h1 : r.fr = s
    · rw [if_pos h1, if_pos h1, if_neg (by omega)]; omega
    · rw [if_neg h1, if_neg h1]; omega
  rw [sumL_congr fun s _ => e s, sumL_add (fun s => if r.fr = s then -f else 0) fun s => if r.to = s then f else 0, sumL_ite _ _ hs, sumL_ite _ _ hs]
  unfold sideB inG ovF
  by_cases h1 : r.fr ∈ st <;> by_cases h2 : r.to ∈ st <;> simp [h1, h2]
  omega
theorem grp_over (hC : Can N T) {st : List Int} (hs : Grp N.g.length st) : grpV st T = sumN N.r.length fun i => ovF (sideB (inG st) (gD N.r i)) (gD T.f i) := by
  have hc := (askM_to hC.ask).1
  have hg := good_of hc
  have hb := ((can_iff hc).1 hC).2.2.2
  have e : grpV st T = sumL (fun s : Int => -sumN N.r.length fun i => bS s (gD N.r i) (gD T.f i)) st := sumL_congr fun x hx => by
    have h0 := hs.mem x hx
    have h1 := hb x.toNat (by omega)
    unfold balN at h1
    rw [show ((x.toNat : Nat) : Int) = x by omega] at h1
    omega
  rw [e, sumL_neg (fun s : Int => sumN N.r.length fun i => bS s (gD N.r i) (gD T.f i)), sumL_sumN (fun (s : Int) i => bS s (gD N.r i) (gD T.f i))]
  have e2 : sumN N.r.length (fun i => sumL (fun s : Int => bS s (gD N.r i) (gD T.f i)) st) = sumN N.r.length fun i => -ovF (sideB (inG st) (gD N.r i)) (gD T.f i) := sumN_congr fun i hi => side_sum hs.inc (hg.r i hi).2.2.2 _
  rw [e2]
  have e3 := sumN_add (fun i => ovF (sideB (inG st) (gD N.r i)) (gD T.f i)) (fun i => -ovF (sideB (inG st) (gD N.r i)) (gD T.f i)) N.r.length
  rw [sumN_congr (g := fun _ => 0) fun i _ => by omega, sumN_zero] at e3
  omega
theorem side_cases (b : Int → Bool) (r : Reach) : sideB b r = 1 ∨ sideB b r = -1 ∨ sideB b r = 0 := by
  unfold sideB; split
  · exact .inl rfl
  · split
    · exact .inr (.inl rfl)
    · exact .inr (.inr rfl)
theorem grp_border (h : checkL N = 0) (hc : setC N = 0) {st : List Int} (hs : Grp N.g.length st) : sumN N.r.length (fun i => loF (sideB (inG st) (gD N.r i)) (gD N.r i).sp) ≤ (grpS ⟨N, st⟩).lo ∧ (grpS ⟨N, st⟩).hi ≤ sumN N.r.length fun i => hiF (sideB (inG st) (gD N.r i)) (gD N.r i).sp := by
  have hg := good_of h
  obtain ⟨_, hS⟩ := group_span h hc ((grp_of ⟨hg.g1, hg.g8⟩).2 hs)
  have key : ∀ T, Can N T → sumN N.r.length (fun i => loF (sideB (inG st) (gD N.r i)) (gD N.r i).sp) ≤ grpV st T ∧ grpV st T ≤ sumN N.r.length fun i => hiF (sideB (inG st) (gD N.r i)) (gD N.r i).sp := fun T hT => by
    rw [grp_over hT hs]
    have hf := ((can_iff h).1 hT).2.1
    constructor
    · refine sumN_le fun i hi => ?_
      have := hf i hi
      unfold loF ovF
      rcases side_cases (inG st) (gD N.r i) with e | e | e <;> rw [e] <;> simp <;> omega
    · refine sumN_le fun i hi => ?_
      have := hf i hi
      unfold hiF ovF
      rcases side_cases (inG st) (gD N.r i) with e | e | e <;> rw [e] <;> simp <;> omega
  obtain ⟨T1, c1, e1⟩ := hS.lo
  obtain ⟨T2, c2, e2⟩ := hS.hi
  have := key T1 c1
  have := key T2 c2
  omega
theorem grp_all (h : checkL N = 0) (hc : setC N = 0) {st : List Int} (hs : Grp N.g.length st) (hall : ∀ j, j < N.g.length → (j : Int) ∈ st) : grpS ⟨N, st⟩ = ⟨0, 0⟩ := by
  have hg := good_of h
  obtain ⟨_, hS⟩ := group_span h hc ((grp_of ⟨hg.g1, hg.g8⟩).2 hs)
  have key : ∀ T, Can N T → grpV st T = 0 := fun T hT => by
    rw [grp_over hT hs, sumN_congr (g := fun _ => 0), sumN_zero]
    intro i hi
    obtain ⟨_, a, b, _⟩ := hg.r i hi
    have e1 : inG st (gD N.r i).fr = true := decide_eq_true (by have := hall (gD N.r i).fr.toNat (by omega); rwa [show (((gD N.r i).fr.toNat : Nat) : Int) = (gD N.r i).fr by omega] at this)
    have e2 : inG st (gD N.r i).to = true := decide_eq_true (by have := hall (gD N.r i).to.toNat (by omega); rwa [show (((gD N.r i).to.toNat : Nat) : Int) = (gD N.r i).to by omega] at this)
    unfold sideB ovF; rw [e1, e2]; rfl
  obtain ⟨T1, c1, e1⟩ := hS.lo
  obtain ⟨T2, c2, e2⟩ := hS.hi
  rw [key T1 c1] at e1
  rw [key T2 c2] at e2
  cases hq : grpS ⟨N, st⟩ with | mk x y =>
  rw [hq] at e1 e2
  simp only at e1 e2
  rw [← e1, ← e2]
theorem grp_others (h : checkL N = 0) (hc : setC N = 0) {st ot : List Int} (hs : Grp N.g.length st) (ho : Grp N.g.length ot) (hx : ∀ j : Nat, j < N.g.length → ((j : Int) ∈ ot ↔ (j : Int) ∉ st)) : grpS ⟨N, st⟩ = ⟨-(grpS ⟨N, ot⟩).hi, -(grpS ⟨N, ot⟩).lo⟩ := by
  have hg := good_of h
  obtain ⟨_, hS⟩ := group_span h hc ((grp_of ⟨hg.g1, hg.g8⟩).2 hs)
  obtain ⟨_, hO⟩ := group_span h hc ((grp_of ⟨hg.g1, hg.g8⟩).2 ho)
  have key : ∀ T, Can N T → grpV st T = -grpV ot T := fun T hT => by
    have e3 := sumN_add (fun i => ovF (sideB (inG st) (gD N.r i)) (gD T.f i)) (fun i => ovF (sideB (inG ot) (gD N.r i)) (gD T.f i)) N.r.length
    rw [← grp_over hT hs, ← grp_over hT ho, sumN_congr (g := fun _ => 0), sumN_zero] at e3
    · omega
    intro i hi
    obtain ⟨_, a, b, _⟩ := hg.r i hi
    have x1 := hx (gD N.r i).fr.toNat (by omega)
    have x2 := hx (gD N.r i).to.toNat (by omega)
    rw [show (((gD N.r i).fr.toNat : Nat) : Int) = (gD N.r i).fr by omega] at x1
    rw [show (((gD N.r i).to.toNat : Nat) : Int) = (gD N.r i).to by omega] at x2
    unfold sideB inG ovF
    by_cases h1 : (gD N.r i).fr ∈ st <;> by_cases h2 : (gD N.r i).to ∈ st <;> simp [x1, x2, h1, h2] <;> omega
  refine hS.uniq ⟨?_, ?_, fun T hT => ?_⟩
  · obtain ⟨T2, c2, e2⟩ := hO.hi
    exact ⟨T2, c2, by rw [key T2 c2, e2]⟩
  · obtain ⟨T1, c1, e1⟩ := hO.lo
    exact ⟨T1, c1, by rw [key T1 c1, e1]⟩
  · have := hO.all T hT
    rw [key T hT]
    show -(grpS ⟨N, ot⟩).hi ≤ -grpV ot T ∧ -grpV ot T ≤ -(grpS ⟨N, ot⟩).lo
    omega
end Go.Bal
