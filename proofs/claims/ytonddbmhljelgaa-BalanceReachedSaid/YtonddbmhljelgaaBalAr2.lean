/- Bytes and integers that came in, as data. -/
import Derived.Test.YtonddbmhljelgaaBalX
import Derived.Test.YtonddbmhljelgaaBalMk
import Derived.Test.YtonddbmhljelgaaBalT17
import Derived.Test.YtonddbmhljelgaaBalT20
set_option linter.unusedVariables false
set_option linter.unusedSimpArgs false
set_option maxRecDepth 100000
namespace Go.Bal
open Go Go.Sym Go.Proofs Go.ChangeShapes Go.WideShapes Go.RowKit
def ByOk (l : List Int) : Prop := ∀ i, i < l.length → 0 ≤ gD l i ∧ gD l i ≤ 255
section
variable {X : Type} {enc : TypeId × Value → X} {w : World} {base : Nat} {spare : Nat → Bool} {held : Bool}
abbrev Byt := { n : Int // 0 ≤ n ∧ n ≤ 255 }
instance : Inhabited Byt := ⟨⟨0, by decide, by decide⟩⟩
theorem elem_byte : ElemOk X enc Try.prog w base spare held 5 1 (fun b : Byt => .v (.int .u8 b.val)) := by
  refine ⟨by kernel_rfl, fun fuel cs x h hl => ?_⟩
  obtain ⟨n, rfl, _, hw⟩ := DataW.trod_int Try.underlying5 h
  have hw : (decide (IntKind.u8.min ≤ n) && decide (n ≤ IntKind.u8.max)) = true := hw
  simp only [Bool.and_eq_true, decide_eq_true_eq] at hw
  have e1 : IntKind.u8.min = 0 := rfl
  have e2 : IntKind.u8.max = 255 := rfl
  exact ⟨⟨n, by omega, by omega⟩, rfl, rfl⟩
theorem bytes_rel {v : Value} {d : DataW X} {ps : List MemPlace} {r : Go.Reach} {b0 : Nat} (hv : Value.okWide Try.prog w r b0 54 v) (h : DataW.Trod enc Try.prog w base spare held 54 v d ps) : ∃ l : List Int, ByOk l ∧ DRel (immOf w) (eBys l) v := by
  obtain ⟨a, len, cap, rfl⟩ := okWide_slice Try.underlying54 hv
  obtain ⟨fuel, hf⟩ := h
  obtain ⟨l, hl⟩ := row_rel (by omega) Try.underlying54 elem_byte hf
  have hg : ∀ i, gD (l.map Subtype.val) i = (gD l i).val := fun i => by
    simp only [gD, List.getD_eq_getElem?_getD, List.getElem?_map]
    cases l[i]? <;> rfl
  refine ⟨l.map Subtype.val, fun i hi => by rw [hg]; exact (gD l i).2, ?_⟩
  unfold eBys
  rw [List.length_map]
  have e : (fun i => DVal.v (.int .u8 (gD (l.map Subtype.val) i))) = fun i => DVal.v (.int .u8 (gD l i).val) := by funext i; rw [hg]
  rw [e]; exact hl
theorem int_rel {v : Value} {d : DataW X} {ps : List MemPlace} {r : Go.Reach} {b0 : Nat} (hv : Value.okWide Try.prog w r b0 3 v) (h : DataW.Trod enc Try.prog w base spare held 3 v d ps) : ∃ n : Int, (-9223372036854775808 ≤ n ∧ n ≤ 9223372036854775807) ∧ DRel (immOf w) (.v (.int .i64 n)) v := by
  obtain ⟨m, rfl⟩ := okWide_int Try.underlying3 hv
  obtain ⟨fuel, hf⟩ := h
  obtain ⟨n, e, _, hw⟩ := DataW.trod_int Try.underlying3 hf
  have e : [Value.int .i64 m] = [.int .i64 n] := e
  cases e
  have hw : (decide (IntKind.i64.min ≤ m) && decide (m ≤ IntKind.i64.max)) = true := hw
  simp only [Bool.and_eq_true, decide_eq_true_eq] at hw
  have e1 : IntKind.i64.min = -9223372036854775808 := rfl
  have e2 : IntKind.i64.max = 9223372036854775807 := rfl
  exact ⟨m, ⟨by omega, by omega⟩, .v _⟩
end
end Go.Bal

namespace Go.Bal
open Go Go.Sym Go.Proofs
theorem stm0 {l : List Int} (h : ByOk l) : StmB 0 ⟨l, 0, 0⟩ := ⟨⟨Int.le_refl _, Int.le_refl _⟩, ⟨Int.le_refl _, (by decide : (0 : Int) < 251)⟩, h⟩
def mkA (l : List Int) (most : Int) : SN := ⟨⟨l, 0, 0⟩, most⟩
def mkN (l : List Int) (most : Int) : NetL := madeN (mkA l most)
def mkT (l : List Int) (most : Int) : TruthL := madeTr (mkA l most)
theorem mk_ok {l : List Int} (h : ByOk l) {most : Int} (hm : 1 ≤ most ∧ most ≤ 8) : Made (mkN l most) (mkT l most) most := (made_ok (mkA l most) ((stm0 h).mono (by omega)) hm).1
def dNT8 : List AVal → Heap → Option (C48.α × List (Nat × Nat) × List Nat) := dNT
theorem ok48t : SpecOk Try.prog 48 (C48.spec dNT8) := okC C48 (fun _ => A48) [] [] Try.func48 (fun _ => by kernel_rfl) (fun _ => gok_cons ok78 (gok_cons ok79 (gok_cons ok70 gok_nil))) (fun a h => p48 a h.1 h.2) (fun _ => noI rfl rfl) _
variable {N : NetL} {T : TruthL}
theorem can_vals (h : Can N T) : askM N T = 0 ∧ balL N T = [] ∧ holdM N T = true ∧ costE N T = 0 ∧ costV N T = 0 := by
  have h1 := h.ask
  have h2 := h.unb
  have h3 := h.cost
  have e : costE N T = 0 := by unfold costE; rw [if_pos h1, h2]; rfl
  refine ⟨h1, ?_, ?_, e, ?_⟩
  · unfold balL; rw [if_pos h1, h2]
  · unfold holdM; rw [h1, h2, h3]; rfl
  · unfold costV; rw [if_pos e, h3]
theorem net_vals (h : Can N T) : checkL N = 0 ∧ setC N = 0 ∧ fitE N = 0 ∧ fitF N = spF N ∧ fitG N = spG N ∧ corC N = 0 := by
  have hc := (askM_to h.ask).1
  have hs := can_zero h
  have hf := fitE_zero.2 ⟨hc, hs⟩
  exact ⟨hc, hs, hf, by unfold fitF; rw [if_pos hf], by unfold fitG; rw [if_pos hf], by unfold corC; rw [if_pos hc, hs]⟩
end Go.Bal

namespace Go.Bal
open Go
variable {N : NetL} {T : TruthL}
theorem reachE_eq (h : checkL N = 0) (hc : setC N = 0) {r : Nat} (hr : r < N.r.length) {f : Int} (hf : -100000000 ≤ f ∧ f ≤ 100000000) : reachE ⟨N, r, f⟩ = if (gD (spF N) r).lo ≤ f ∧ f ≤ (gD (spF N) r).hi then 0 else 5 := by
  obtain ⟨_, h2, _⟩ := reached_ok h hc hr hf
  have e1 : inM (r : Int) 0 (N.r.length - 1) = true := inM_iff.2 (by omega)
  have e2 : inM f (-100000000) 100000000 = true := inM_iff.2 hf
  unfold reachE
  simp only
  rw [if_pos h, if_pos e1, if_neg (by omega), if_pos e2]
  by_cases hi : (gD (spF N) r).lo ≤ f ∧ f ≤ (gD (spF N) r).hi
  · rw [if_pos hi, if_pos (h2.2 hi)]
  · rw [if_neg hi, if_neg fun he => hi (h2.1 he)]
theorem reach_can (h : checkL N = 0) (hc : setC N = 0) {r : Nat} (hr : r < N.r.length) {f : Int} (hf : -100000000 ≤ f ∧ f ≤ 100000000) (hi : (gD (spF N) r).lo ≤ f ∧ f ≤ (gD (spF N) r).hi) : reachE ⟨N, r, f⟩ = 0 ∧ Can N (rchT ⟨N, r, f⟩) ∧ gD (rchT ⟨N, r, f⟩).f r = f := by
  have e := reachE_eq h hc hr hf
  rw [if_pos hi] at e
  obtain ⟨_, h2, h3⟩ := reached_ok h hc hr hf
  have et : rchT ⟨N, r, f⟩ = truthM (NRF.mk N r f).res.1 := if_pos e
  rw [et]
  exact ⟨e, h3 (h2.2 hi)⟩
def toldN (N : NetL) (i : Nat) (s : Span) : NetL := ⟨N.g, N.r.modify i fun r => { r with sp := s }⟩
theorem told_len (N : NetL) (i : Nat) (s : Span) : (toldN N i s).r.length = N.r.length := by simp [toldN]
theorem told_r {i : Nat} (hi : i < N.r.length) (s : Span) (j : Nat) : gD (toldN N i s).r j = if j = i then { (gD N.r i) with sp := s } else gD N.r j := gD_modify hi j
theorem told_good (hg : Good N) {i : Nat} (hi : i < N.r.length) {s : Span} (hs : -1000000 ≤ s.lo ∧ s.lo ≤ s.hi ∧ s.hi ≤ 1000000) : Good (toldN N i s) := by
  refine ⟨hg.g1, hg.g8, by rw [told_len]; exact hg.r14, hg.g, fun j hj => ?_⟩
  rw [told_len] at hj
  rw [told_r hi]
  obtain ⟨a, b⟩ := hg.r j hj
  by_cases he : j = i
  · subst he; rw [if_pos rfl]; exact ⟨by simp only; omega, b⟩
  · rw [if_neg he]; exact ⟨a, b⟩
theorem told_bal {i : Nat} (hi : i < N.r.length) (sp : Span) (s : Nat) : balN (toldN N i sp) T s = balN N T s := by
  unfold balN
  rw [told_len]
  congr 1
  refine sumN_congr fun j hj => ?_
  rw [told_r hi]
  by_cases he : j = i
  · subst he; rw [if_pos rfl]; rfl
  · rw [if_neg he]
theorem told_can (h : checkL N = 0) {i : Nat} (hi : i < N.r.length) {s : Span} (hc : checkL (toldN N i s) = 0) : Can (toldN N i s) T ↔ (T.f.length = N.r.length ∧ T.t.length = N.g.length) ∧ (∀ j, j < N.r.length → j ≠ i → (gD N.r j).sp.lo ≤ gD T.f j ∧ gD T.f j ≤ (gD N.r j).sp.hi) ∧ (s.lo ≤ gD T.f i ∧ gD T.f i ≤ s.hi) ∧ (∀ j, j < N.g.length → (gD N.g j).lo ≤ gD T.t j ∧ gD T.t j ≤ (gD N.g j).hi) ∧ ∀ q, q < N.g.length → balN N T q = 0 := by
  rw [can_iff hc, told_len]
  constructor
  · rintro ⟨a, b, c, d⟩
    refine ⟨a, fun j hj hne => ?_, ?_, c, fun q hq => by rw [← told_bal hi s q]; exact d q hq⟩
    · have := b j hj; rw [told_r hi, if_neg hne] at this; exact this
    · have := b i hi; rw [told_r hi, if_pos rfl] at this; exact this
  · rintro ⟨a, b, c, d, e⟩
    refine ⟨a, fun j hj => ?_, d, fun q hq => by rw [told_bal hi s q]; exact e q hq⟩
    rw [told_r hi]
    by_cases he : j = i
    · subst he; rw [if_pos rfl]; exact c
    · rw [if_neg he]; exact b j hj he
theorem told_agr (h : checkL N = 0) {i : Nat} (hi : i < N.r.length) (hT : Can N T) : agrM (toldN N i ⟨gD T.f i, gD T.f i⟩) = true := by
  have hg := good_of h
  obtain ⟨a, b, c, d⟩ := (can_iff h).1 hT
  have bi := b i hi
  have ri := (hg.r i hi).1
  have hc : checkL (toldN N i ⟨gD T.f i, gD T.f i⟩) = 0 := check_good (told_good hg hi (by simp only; omega))
  have := can_zero ((told_can h hi hc).2 ⟨a, fun j hj _ => b j hj, by simp only; omega, c, d⟩)
  unfold agrM
  rw [decide_eq_true hc, decide_eq_true this]; rfl
theorem pick_in (v : Int) {n : Int} (hn : 1 ≤ n ∧ n ≤ 1000000000) : 0 ≤ pickM v n ∧ pickM v n < n := by
  unfold pickM
  rw [if_neg (by omega)]
  have h1 : v.tmod n < n := by
    have := Int.tmod_lt_of_pos v (show 0 < n by omega); exact this
  have h2 : -n < v.tmod n := by
    have := Int.lt_tmod_of_pos v (show 0 < n by omega); exact this
  by_cases h : v.tmod n < 0
  · rw [if_pos h]
    have e : wr (v.tmod n + n) = v.tmod n + n := w64 (by omega) (by omega)
    rw [e]; omega
  · rw [if_neg h]; omega
end Go.Bal
