/- Package rating: Passes, Through, At. -/
import Derived.Test.YtoihhodbkimedaaRatW
import Derived.Test.YtoihhodbkimedaaRT6
set_option linter.unusedVariables false
set_option linter.unusedSimpArgs false
namespace Go.Bal
open Go Go.Sym Go.Proofs
structure GR where
 g : List Gau
 r : Rtg
def notP (a : GR) (i : Nat) : Bool := !BR (gD a.r.l (LI a.r.b (gD a.g i).st)) (gD a.g i)
def pasK (a : GR) (n : Nat) : List Int := ((List.range n).filter (notP a)).map Int.ofNat
def pasE (a : GR) : Int := bif AT a.g == 0 then UZ a.r else AT a.g
def pasM (a : GR) : List Int := bif pasE a == 0 then pasK a a.g.length else []
def rtgC (r : Rtg) : HCell := .live (.box [.d (BL r.b), .d (kI r.l)])
structure RtI where
 r : Rtg
 t : Int
def atF (a : RtI) : Rt := BI (gD a.r.l (LI a.r.b a.t)) a.t
def atE (a : RtI) : Int := bif UZ a.r == 0 then (bif FT a.t 0 2000 then 0 else 4) else UZ a.r
def atM (a : RtI) : Rt := bif atE a == 0 then atF a else ⟨0, 0⟩
end Go.Bal

namespace Go.Bal
open Go Go.Sym Go.Proofs
structure RtOk (g : List Gau) (r : Rtg) : Prop where
 chk : AT g = 0
 asc : asc r.b
 brk : ∀ x ∈ r.b, 1 <= x /\ x <= 2000
 few : r.b.length <= 24
 lines : r.l.length = r.b.length + 1
 rise : ∀ x ∈ r.l, DS x
 pass : ∀ i, i <= r.b.length -> (DD (gD r.l i)).passes (CH g r.b i)
theorem RtOk.chkR {g : List Gau} {r : Rtg} (h : RtOk g r) : UZ r = 0 := by
 unfold UZ
 rw [BRE h.asc h.brk h.few, h.lines, List.all_eq_true.2 λ x hx => WA.2 (h.rise x hx)]
 simp
theorem RtOk.thru {g : List Gau} {r : Rtg} (h : RtOk g r) : Thru g r.b :=
 ⟨(PS h.chk).1, (PS h.chk).2, h.asc, h.brk, h.few, λ i hi => ⟨_, h.rise _ (BZ (by rw [h.lines]; omega)), h.pass i hi⟩⟩
theorem RtOk.passes {g : List Gau} {r : Rtg} (h : RtOk g r) : pasE ⟨g, r⟩ = 0 /\ pasM ⟨g, r⟩ = [] := by
 have e : pasE ⟨g, r⟩ = 0 := by
  show (bif AT g == 0 then UZ r else AT g) = 0
  rw [h.chk, h.chkR]; rfl
 refine ⟨e, ?_⟩
 unfold pasM; rw [e]
 show pasK ⟨g, r⟩ g.length = []
 unfold pasK
 rw [List.map_eq_nil_iff, List.filter_eq_nil_iff]
 intro i hi hc
 have hi := List.mem_range.1 hi
 have hle := RS r.b (gD g i).st
 have hp := h.pass (LI r.b (gD g i).st) hle _ (DU.2 ⟨BZ hi, rfl⟩)
 have ho : DS (gD r.l (LI r.b (gD g i).st)) := h.rise _ (BZ (by rw [h.lines]; omega))
 have hc : (!BR (gD r.l (LI r.b (gD g i).st)) (gD g i)) = true := hc
 rw [(ABJ ho).2 hp] at hc; cases hc
theorem RtOk.at {g : List Gau} {r : Rtg} (h : RtOk g r) {t : Int} (ht : 0 <= t /\ t <= 2000) : atE ⟨r, t⟩ = 0 /\ As (atM ⟨r, t⟩) /\ FQ (AS ⟨g, r.b, t⟩).lo (atM ⟨r, t⟩) /\ FQ (atM ⟨r, t⟩) (AS ⟨g, r.b, t⟩).hi := by
 have e : atE ⟨r, t⟩ = 0 := by
  show (bif UZ r == 0 then (bif FT t 0 2000 then 0 else 4) else UZ r) = 0
  rw [h.chkR, show FT t 0 2000 = true by unfold FT; simpa using ht]; rfl
 have hle := RS r.b t
 have ho : DS (gD r.l (LI r.b t)) := h.rise _ (BZ (by rw [h.lines]; omega))
 have e2 : atM ⟨r, t⟩ = BI (gD r.l (LI r.b t)) t := by unfold atM; rw [e]; rfl
 have hp := h.pass _ hle
 have hT := h.thru
 obtain ⟨i1, i2, i3⟩ := hT.in hle ht
 rw [e2, (hT.flow ht).2]
 refine ⟨e, CB ho, ?_, ?_⟩
 ·exact (Du ho i1.1.1).2 (fS (FV hT.ok) ht (AX ho) hp)
 ·exact (Uy ho i2.1.1).2 (ACA (FV hT.ok) ht (AX ho) hp)
theorem Thru.sound {g : List Gau} {b : List Int} (h : Thru g b) {t : Int} (ht : 0 <= t /\ t <= 2000) : GD ⟨g, b, t⟩ = 0 /\ As (AS ⟨g, b, t⟩).lo /\ As (AS ⟨g, b, t⟩).hi /\ A9 (AS ⟨g, b, t⟩) = true := by
 obtain ⟨h1, h2⟩ := h.flow ht
 obtain ⟨i1, i2, i3⟩ := h.in (RS b t) ht
 rw [h2]
 exact ⟨h1, i1, i2, CMK i1 i2 i3⟩
theorem BCK (v : Int) {n : Int} (h : 1 <= n /\ n <= 1000000) : 0 <= GE v n /\ GE v n < n := by
 unfold GE
 rw [if_neg (by omega)]
 have h1 : -n < v.tmod n := Int.lt_tmod_of_pos v (by omega)
 have h2 : v.tmod n < n := Int.tmod_lt_of_pos v (by omega)
 split
 ·unfold wr; rw [EO (by omega) (by omega)]; omega
 ·omega
end Go.Bal

namespace Go.Bal
open Go Go.Sym Go.Proofs
theorem Ob {g u : List Gau} (h : ∀ x ∈ g, x ∈ u) (b : List Int) (k : Int) : ∀ x ∈ CH g b k, x ∈ CH u b k := λ x hx => by
 obtain ⟨h1, h2⟩ := DU.1 hx
 exact DU.2 ⟨h x h1, h2⟩
structure Wid (g w : List Gau) : Prop where
 len : w.length = g.length
 at_ : ∀ i, i < g.length -> (gD w i).st = (gD g i).st /\ (gD w i).lo <= (gD g i).lo /\ (gD g i).hi <= (gD w i).hi
theorem Wid.pass {g w : List Gau} (h : Wid g w) (b : List Int) (k : Int) {y : Ln} (hy : DS y) (hp : (DD y).passes (CH g b k)) : (DD y).passes (CH w b k) := λ x hx => by
 obtain ⟨h1, h2⟩ := DU.1 hx
 obtain ⟨i, hi, rfl⟩ := TD h1
 rw [h.len] at hi
 obtain ⟨a1, a2, a3⟩ := h.at_ i hi
 obtain ⟨p1, p2⟩ := hp (gD g i) (DU.2 ⟨BZ hi, by rw [<- a1]; exact h2⟩)
 have hw := (AX hy).1
 unfold Rl.pass
 rw [a1]
 exact ⟨Int.le_trans (Int.mul_le_mul_of_nonneg_right a2 (Int.le_of_lt hw)) p1, Int.le_trans p2 (Int.mul_le_mul_of_nonneg_right a3 (Int.le_of_lt hw))⟩
theorem Wid.thru {g w : List Gau} (h : Wid g w) (ho : ∀ x ∈ w, GY x) {b : List Int} (hT : Thru g b) : Thru w b :=
 ⟨by rw [h.len]; exact hT.len, ho, hT.asc, hT.brk, hT.few, λ k hk => by
  obtain ⟨x, h1, h2⟩ := hT.thru k hk
  exact ⟨x, h1, h.pass b k h1 h2⟩⟩
end Go.Bal
