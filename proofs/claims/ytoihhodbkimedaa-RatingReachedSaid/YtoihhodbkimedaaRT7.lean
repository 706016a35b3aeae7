/- Package rating: ratings that pass (no program in sight). -/
import Derived.Test.YtoihhodbkimedaaRT6
import Derived.Test.YtoihhodbkimedaaRatZ
set_option linter.unusedVariables false
set_option linter.unusedSimpArgs false
namespace Go.Bal
open Go Go.Sym Go.Proofs
structure RtOk (g : List Gau) (r : Rtg) : Prop where
 chk : checkG g = 0
 asc : asc r.b
 brk : ∀ x ∈ r.b, 1 <= x /\ x <= 2000
 few : r.b.length <= 24
 lines : r.l.length = r.b.length + 1
 rise : ∀ x ∈ r.l, okL x
 pass : ∀ i, i <= r.b.length -> (rlL (gD r.l i)).passes (partS g r.b i)
theorem RtOk.chkR {g : List Gau} {r : Rtg} (h : RtOk g r) : checkRM r = 0 := by
 unfold checkRM
 rw [brk_ok0 h.asc h.brk h.few, h.lines, List.all_eq_true.2 λ x hx => riL_ok.2 (h.rise x hx)]
 simp
theorem RtOk.thru {g : List Gau} {r : Rtg} (h : RtOk g r) : Thru g r.b :=
 ⟨(check_ok h.chk).1, (check_ok h.chk).2, h.asc, h.brk, h.few, λ i hi => ⟨_, h.rise _ (gD_mem (by rw [h.lines]; omega)), h.pass i hi⟩⟩
theorem RtOk.passes {g : List Gau} {r : Rtg} (h : RtOk g r) : pasE ⟨g, r⟩ = 0 /\ pasM ⟨g, r⟩ = [] := by
 have e : pasE ⟨g, r⟩ = 0 := by
  show (bif checkG g == 0 then checkRM r else checkG g) = 0
  rw [h.chk, h.chkR]; rfl
 refine ⟨e, ?_⟩
 unfold pasM; rw [e]
 show pasK ⟨g, r⟩ g.length = []
 unfold pasK
 rw [List.map_eq_nil_iff, List.filter_eq_nil_iff]
 intro i hi hc
 have hi := List.mem_range.1 hi
 have hle := leC_le r.b (gD g i).st
 have hp := h.pass (leC r.b (gD g i).st) hle _ (part_mem.2 ⟨gD_mem hi, rfl⟩)
 have ho : okL (gD r.l (leC r.b (gD g i).st)) := h.rise _ (gD_mem (by rw [h.lines]; omega))
 have hc : (!passM (gD r.l (leC r.b (gD g i).st)) (gD g i)) = true := hc
 rw [(passM_iff ho).2 hp] at hc; cases hc
theorem RtOk.at {g : List Gau} {r : Rtg} (h : RtOk g r) {t : Int} (ht : 0 <= t /\ t <= 2000) : atE ⟨r, t⟩ = 0 /\ okR (atM ⟨r, t⟩) /\ leR (flowB ⟨g, r.b, t⟩).lo (atM ⟨r, t⟩) /\ leR (atM ⟨r, t⟩) (flowB ⟨g, r.b, t⟩).hi := by
 have e : atE ⟨r, t⟩ = 0 := by
  show (bif checkRM r == 0 then (bif inM t 0 2000 then 0 else 4) else checkRM r) = 0
  rw [h.chkR, show inM t 0 2000 = true by unfold inM; simpa using ht]; rfl
 have hle := leC_le r.b t
 have ho : okL (gD r.l (leC r.b t)) := h.rise _ (gD_mem (by rw [h.lines]; omega))
 have e2 : atM ⟨r, t⟩ = flowM (gD r.l (leC r.b t)) t := by unfold atM; rw [e]; rfl
 have hp := h.pass _ hle
 have hT := h.thru
 obtain ⟨i1, i2, i3⟩ := hT.in hle ht
 rw [e2, (hT.flow ht).2]
 refine ⟨e, flow_okR ho, ?_, ?_⟩
 ·exact (le_flow ho i1.1.1).2 (bdS_lo (part_ok hT.ok) ht (rlL_ok ho) hp)
 ·exact (flow_le ho i2.1.1).2 (bdS_hi (part_ok hT.ok) ht (rlL_ok ho) hp)
theorem Thru.sound {g : List Gau} {b : List Int} (h : Thru g b) {t : Int} (ht : 0 <= t /\ t <= 2000) : flowE ⟨g, b, t⟩ = 0 /\ okR (flowB ⟨g, b, t⟩).lo /\ okR (flowB ⟨g, b, t⟩).hi /\ sndM (flowB ⟨g, b, t⟩) = true := by
 obtain ⟨h1, h2⟩ := h.flow ht
 obtain ⟨i1, i2, i3⟩ := h.in (leC_le b t) ht
 rw [h2]
 exact ⟨h1, i1, i2, snd_ok i1 i2 i3⟩
theorem pick_in (v : Int) {n : Int} (h : 1 <= n /\ n <= 1000000) : 0 <= pickV v n /\ pickV v n < n := by
 unfold pickV
 rw [if_neg (by omega)]
 have h1 : -n < v.tmod n := Int.lt_tmod_of_pos v (by omega)
 have h2 : v.tmod n < n := Int.tmod_lt_of_pos v (by omega)
 split
 ·unfold wr; rw [w64 (by omega) (by omega)]; omega
 ·omega
end Go.Bal

namespace Go.Bal
open Go Go.Sym Go.Proofs
theorem leC_iff {b : List Int} (hb : asc b) {k : Nat} (hk : k <= b.length) (t : Int) : leC b t = k ↔ (k = 0 ∨ gD b (k - 1) <= t) /\ (k = b.length ∨ t < gD b k) := by
 obtain ⟨h1, h2⟩ := leC_at (t := t) hb
 constructor
 ·intro he
  rw [he] at h1 h2
  refine ⟨?_, ?_⟩
  ·by_cases h0 : k = 0
   ·exact .inl h0
   ·exact .inr (h1 _ (by omega))
  ·by_cases h0 : k = b.length
   ·exact .inl h0
   ·exact .inr (h2 _ (Nat.le_refl _) (by omega))
 ·rintro ⟨a1, a2⟩
  unfold leC
  refine count_at hk (λ j hj => decide_eq_true ?_) (λ j hj hj2 => decide_eq_false ?_)
  ·rcases a1 with a1 | a1
   ·omega
   ·by_cases he : j = k - 1
    ·rw [he]; exact a1
    ·have := asc_lt hb (show j < k - 1 by omega) (by omega); omega
  ·rcases a2 with a2 | a2
   ·omega
   ·by_cases he : k = j
    ·rw [<- he]; omega
    ·have := asc_lt hb (show k < j by omega) hj2; omega
theorem partS_nil (g : List Gau) : partS g [] (0 : Nat) = g := by
 unfold partS insM newB
 exact List.filter_eq_self.2 λ x _ => rfl
theorem checkR_one {y : Ln} (h : okL y) : checkRM ⟨[], [y]⟩ = 0 := by
 unfold checkRM
 have e1 : checkBM [] = 0 := rfl
 rw [e1, List.all_eq_true.2 (λ x hx => by rw [List.mem_singleton.1 hx]; exact riL_ok.2 h)]
 rfl
theorem at_one {y : Ln} (h : okL y) {t : Int} (ht : 0 <= t /\ t <= 2000) : atE ⟨⟨[], [y]⟩, t⟩ = 0 /\ atM ⟨⟨[], [y]⟩, t⟩ = flowM y t := by
 have e : atE ⟨⟨[], [y]⟩, t⟩ = 0 := by
  show (bif checkRM ⟨[], [y]⟩ == 0 then (bif inM t 0 2000 then 0 else 4) else checkRM ⟨[], [y]⟩) = 0
  rw [checkR_one h, show inM t 0 2000 = true by unfold inM; simpa using ht]; rfl
 refine ⟨e, ?_⟩
 unfold atM; rw [e]; rfl
theorem rtOk_one {g : List Gau} {y : Ln} (hc : checkG g = 0) (h : okL y) (hp : (rlL y).passes g) : RtOk g ⟨[], [y]⟩ :=
 ⟨hc, .nil, λ x hx => (by cases hx), Nat.zero_le _, rfl, λ x hx => by rw [List.mem_singleton.1 hx]; exact h, λ i hi => by
  have : i = 0 := by have hi : i <= 0 := hi; omega
  subst this
  show (rlL y).passes (partS g [] (0 : Nat))
  rw [partS_nil]; exact hp⟩
theorem one_pass {g : List Gau} {y : Ln} (h : okL y) (hE : pasE ⟨g, ⟨[], [y]⟩⟩ = 0) (hp : pasM ⟨g, ⟨[], [y]⟩⟩ = []) : (rlL y).passes g := λ x hx => by
 unfold pasM at hp; rw [hE] at hp
 have hp : pasK ⟨g, ⟨[], [y]⟩⟩ g.length = [] := hp
 unfold pasK at hp
 rw [List.map_eq_nil_iff, List.filter_eq_nil_iff] at hp
 obtain ⟨i, hi, rfl⟩ := mem_gD hx
 have := hp i (List.mem_range.2 hi)
 refine (passM_iff h).1 ?_
 have e : notP ⟨g, ⟨[], [y]⟩⟩ i = !passM y (gD g i) := rfl
 rw [e] at this
 cases hq : passM y (gD g i) with
 | true => rfl
 | false => rw [hq] at this; exact (this rfl).elim
theorem Thru.reach {g : List Gau} {b : List Int} (h : Thru g b) {t : Int} (ht : 0 <= t /\ t <= 2000) (u : Bool) : okL (rchL ⟨⟨g, b, t⟩, u⟩) /\ (rlL (rchL ⟨⟨g, b, t⟩, u⟩)).passes (partS g b (leC b t)) /\ flowM (rchL ⟨⟨g, b, t⟩, u⟩) t = (bif u then (flowB ⟨g, b, t⟩).hi else (flowB ⟨g, b, t⟩).lo) := by
 obtain ⟨h1, h2⟩ := h.flow ht
 have hne := h.ne (leC_le b t) ht
 have e : rchL ⟨⟨g, b, t⟩, u⟩ = bif u then bestM gtR t (lnsM (partS g b (leC b t)) t) else bestM ltR t (lnsM (partS g b (leC b t)) t) := by
  unfold rchL; rw [h1]; rfl
 rw [e, h2, bdS_eq hne]
 cases u with
 | true =>
  have hb := (best_hi (t := t) (λ x hx => (lns_pass (part_ok h.ok) hx).1) hne).1
  exact ⟨(lns_pass (part_ok h.ok) hb).1, (lns_pass (part_ok h.ok) hb).2, rfl⟩
 | false =>
  have hb := (best_lo (t := t) (λ x hx => (lns_pass (part_ok h.ok) hx).1) hne).1
  exact ⟨(lns_pass (part_ok h.ok) hb).1, (lns_pass (part_ok h.ok) hb).2, rfl⟩
end Go.Bal
