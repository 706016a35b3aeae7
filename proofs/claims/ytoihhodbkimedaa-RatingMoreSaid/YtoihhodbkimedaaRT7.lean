/- Package rating: ratings that pass (no program in sight). -/
import Derived.Test.YtoihhodbkimedaaRT6
import Derived.Test.YtoihhodbkimedaaRatZ
set_option linter.unusedVariables false
set_option linter.unusedSimpArgs false
namespace Go.Bal
open Go Go.Sym Go.Proofs
structure RtOk (g : List Gau) (r : Rtg) : Prop where
 chk : checkG g = 0
 asc : asc r.b
 brk : ∀ x ∈ r.b, 1 <= x /\ x <= 2000
 few : r.b.length <= 24
 lines : r.l.length = r.b.length + 1
 rise : ∀ x ∈ r.l, okL x
 pass : ∀ i, i <= r.b.length -> (rlL (gD r.l i)).passes (partS g r.b i)
theorem RtOk.chkR {g : List Gau} {r : Rtg} (h : RtOk g r) : checkRM r = 0 := by
 unfold checkRM
 rw [brk_ok0 h.asc h.brk h.few, h.lines, List.all_eq_true.2 λ x hx => riL_ok.2 (h.rise x hx)]
 simp
theorem RtOk.thru {g : List Gau} {r : Rtg} (h : RtOk g r) : Thru g r.b :=
 ⟨(check_ok h.chk).1, (check_ok h.chk).2, h.asc, h.brk, h.few, λ i hi => ⟨_, h.rise _ (gD_mem (by rw [h.lines]; omega)), h.pass i hi⟩⟩
theorem Fits.rtOk {l : List Gau} {r : Rtg} (h : Fits l r) (h2 : l.length <= 24) : RtOk l r :=
 ⟨check_zero ⟨h.len, h2⟩ h.ok, h.asc, λ x hx => by have := h.brk x hx; omega, by have := h.two; omega, h.lines, h.rise, λ k hk g hg => by
  obtain ⟨h3, h4⟩ := part_mem.1 hg
  have := h.pass g h3
  rw [show leC r.b g.st = k by omega] at this; exact this⟩
theorem Few.rtOk {g : List Gau} {r : Rtg} {k : List (List Int)} (h : Few g r.b r.l k) (hc : checkG g = 0) : RtOk g r :=
 ⟨hc, h.asc, h.brk, h.few, h.lenl, h.rise, λ i hi => (h.pass i hi).2⟩
theorem RtOk.passes {g : List Gau} {r : Rtg} (h : RtOk g r) : pasE ⟨g, r⟩ = 0 /\ pasM ⟨g, r⟩ = [] := by
 have e : pasE ⟨g, r⟩ = 0 := by
  show (bif checkG g == 0 then checkRM r else checkG g) = 0
  rw [h.chk, h.chkR]; rfl
 refine ⟨e, ?_⟩
 unfold pasM; rw [e]
 show pasK ⟨g, r⟩ g.length = []
 unfold pasK
 rw [List.map_eq_nil_iff, List.filter_eq_nil_iff]
 intro i hi hc
 have hi := List.mem_range.1 hi
 have hle := leC_le r.b (gD g i).st
 have hp := h.pass (leC r.b (gD g i).st) hle _ (part_mem.2 ⟨gD_mem hi, rfl⟩)
 have ho : okL (gD r.l (leC r.b (gD g i).st)) := h.rise _ (gD_mem (by rw [h.lines]; omega))
 have hc : (!passM (gD r.l (leC r.b (gD g i).st)) (gD g i)) = true := hc
 rw [(passM_iff ho).2 hp] at hc; cases hc
theorem RtOk.at {g : List Gau} {r : Rtg} (h : RtOk g r) {t : Int} (ht : 0 <= t /\ t <= 2000) : atE ⟨r, t⟩ = 0 /\ okR (atM ⟨r, t⟩) /\ leR (flowB ⟨g, r.b, t⟩).lo (atM ⟨r, t⟩) /\ leR (atM ⟨r, t⟩) (flowB ⟨g, r.b, t⟩).hi := by
 have e : atE ⟨r, t⟩ = 0 := by
  show (bif checkRM r == 0 then (bif inM t 0 2000 then 0 else 4) else checkRM r) = 0
  rw [h.chkR, show inM t 0 2000 = true by unfold inM; simpa using ht]; rfl
 have hle := leC_le r.b t
 have ho : okL (gD r.l (leC r.b t)) := h.rise _ (gD_mem (by rw [h.lines]; omega))
 have e2 : atM ⟨r, t⟩ = flowM (gD r.l (leC r.b t)) t := by unfold atM; rw [e]; rfl
 have hp := h.pass _ hle
 have hT := h.thru
 obtain ⟨i1, i2, i3⟩ := hT.in hle ht
 rw [e2, (hT.flow ht).2]
 refine ⟨e, flow_okR ho, ?_, ?_⟩
 ·exact (le_flow ho i1.1.1).2 (bdS_lo (part_ok hT.ok) ht (rlL_ok ho) hp)
 ·exact (flow_le ho i2.1.1).2 (bdS_hi (part_ok hT.ok) ht (rlL_ok ho) hp)
theorem Thru.sound {g : List Gau} {b : List Int} (h : Thru g b) {t : Int} (ht : 0 <= t /\ t <= 2000) : flowE ⟨g, b, t⟩ = 0 /\ okR (flowB ⟨g, b, t⟩).lo /\ okR (flowB ⟨g, b, t⟩).hi /\ sndM (flowB ⟨g, b, t⟩) = true := by
 obtain ⟨h1, h2⟩ := h.flow ht
 obtain ⟨i1, i2, i3⟩ := h.in (leC_le b t) ht
 rw [h2]
 exact ⟨h1, i1, i2, snd_ok i1 i2 i3⟩
theorem pick_in (v : Int) {n : Int} (h : 1 <= n /\ n <= 1000000) : 0 <= pickV v n /\ pickV v n < n := by
 unfold pickV
 rw [if_neg (by omega)]
 have h1 : -n < v.tmod n := Int.lt_tmod_of_pos v (by omega)
 have h2 : v.tmod n < n := Int.tmod_lt_of_pos v (by omega)
 split
 ·unfold wr; rw [w64 (by omega) (by omega)]; omega
 ·omega
end Go.Bal
