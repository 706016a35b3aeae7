/- Package balance: what Reached says; a reach with another span. -/
import Derived.Test.YtonddbmhljelgaaBalTot
import Derived.Test.YtonddbmhljelgaaBalMk2
import Derived.Test.YtonddbmhljelgaaBalT15
set_option linter.unusedVariables false
set_option linter.unusedSimpArgs false
namespace Go.Bal
open Go
variable {N : NetL} {T : TruthL}
end Go.Bal

namespace Go.Bal
open Go
variable {N : NetL} {T : TruthL}
theorem sumN_out {f : Nat → Int} {n k : Nat} (hk : k < n) : sumN n f = sumN n (fun i => if i = k then 0 else f i) + f k := by
  have : sumN n f = sumN n (fun i => (if i = k then 0 else f i) + if i = k then f k else 0) := sumN_congr fun i _ => by
    by_cases h : i = k
    · subst h; simp
    · simp [h]
  rw [this, sumN_add, sumN_one, if_pos hk]
end Go.Bal

namespace Go.Bal
open Go
variable {d : Desk}
def riseW (π : Int → Int) (w : Way) : Int := π w.to - π w.fr
def lowX (π : Int → Int) (l : List Way) (k : Nat) : Int := sumN l.length fun i => if i = k then 0 else low (riseW π (gD l i)) (gD l i).sp
theorem lowX_le (h : InS d) {π : Int → Int} {k : Nat} (hk : k < d.all.length) (hr : ∀ i, i < d.all.length → i ≠ k → -1 ≤ riseW π (gD d.all i) ∧ riseW π (gD d.all i) ≤ 1) : lowX π d.all k ≤ riseW π (gD d.all k) * (gD d.all k).now := by
  have h1 : sumN d.all.length (fun i => riseW π (gD d.all i) * (gD d.all i).now) = 0 := h.circ π
  rw [sumN_out hk] at h1
  have h2 : sumN d.all.length (fun i => (if i = k then 0 else riseW π (gD d.all i) * (gD d.all i).now) + if i = k then 0 else low (riseW π (gD d.all i)) (gD d.all i).sp) ≤ sumN d.all.length fun _ => 0 := sumN_le fun i hi => by
    by_cases he : i = k
    · simp [he]
    · simp only [if_neg he]
      have h3 := low_le (x := (gD d.all i).now) (s := (gD d.all i).sp) (hr i hi he)
      have h4 := h.now i hi
      unfold offI at h3
      omega
  rw [sumN_add (fun i => if i = k then 0 else riseW π (gD d.all i) * (gD d.all i).now), sumN_zero] at h2
  unfold lowX
  omega
variable {N : NetL} {T : TruthL}
end Go.Bal
