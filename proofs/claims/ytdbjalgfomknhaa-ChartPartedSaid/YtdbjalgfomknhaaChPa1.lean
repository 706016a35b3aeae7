/- Law ChartParted: notes chosen, and the charts that it makes (no program in sight). -/
import Derived.Test.YtdbjalgfomknhaaChPa
import Derived.Test.YtdbjalgfomknhaaChT12
set_option linter.unusedVariables false
set_option linter.unusedSimpArgs false
namespace Go.Bal
open Go Go.Sym Go.Proofs
theorem CBM {α : Type} [Inhabited α] {l : List α} {k : Nat} (h : k < l.length) : l.take (k + 1) = l.take k ++ [gD l k] := by
 rw [List.take_add_one, List.getElem?_eq_getElem h]
 congr 1
 simp [gD, List.getD_eq_getElem?_getD, h]
theorem CKV (m : Int) (l : List Nt) : ∀ k, k <= l.length -> flN m l k = (l.take k).filter λ n => n.mi != m
 | 0, _ => by simp [flN]
 | k + 1, h => by
  have e1 : flN m l (k + 1) = bif (gD l k).mi != m then flN m l k ++ [gD l k] else flN m l k := rfl
  rw [e1, CBM (by omega), List.filter_append, CKV m l k (by omega)]
  cases e : (gD l k).mi != m <;> simp only [List.filter, e, cond_true, cond_false, List.append_nil]
theorem CMC (m : Int) (l : List Nt) : ∀ k, k <= l.length -> Dl m l k = (l.take k).filter λ n => decide (n.mi <= m)
 | 0, _ => by simp [Dl]
 | k + 1, h => by
  have e1 : Dl m l (k + 1) = bif decide ((gD l k).mi <= m) then Dl m l k ++ [gD l k] else Dl m l k := rfl
  rw [e1, CBM (by omega), List.filter_append, CMC m l k (by omega)]
  cases e : decide ((gD l k).mi <= m) <;> simp only [List.filter, e, cond_true, cond_false, List.append_nil]
theorem CMX (m : Int) (l : List Nt) : ∀ k, k <= l.length -> YI m l k = ((l.take k).filter λ n => decide (n.mi >= m)).map (dnN m)
 | 0, _ => by simp [YI]
 | k + 1, h => by
  have e1 : YI m l (k + 1) = bif decide ((gD l k).mi >= m) then YI m l k ++ [dnN m (gD l k)] else YI m l k := rfl
  rw [e1, CBM (by omega), List.filter_append, List.map_append, CMX m l k (by omega)]
  cases e : decide ((gD l k).mi >= m) <;> simp only [List.filter, e, cond_true, cond_false, List.append_nil, List.map]
theorem BLW (m : Int) (l : List Nt) : ∀ k, (flN m l k).length <= k
 | 0 => Nat.le_refl _
 | k + 1 => by
  have := BLW m l k
  unfold flN
  cases (gD l k).mi != m
  ·simp only [cond_false]; omega
  ·simp only [cond_true, List.length_append, List.length_cons, List.length_nil]; omega
theorem CDZ (m : Int) (l : List Nt) : ∀ k, (Dl m l k).length <= k
 | 0 => Nat.le_refl _
 | k + 1 => by
  have := CDZ m l k
  unfold Dl
  cases decide ((gD l k).mi <= m)
  ·simp only [cond_false]; omega
  ·simp only [cond_true, List.length_append, List.length_cons, List.length_nil]; omega
theorem CEG (m : Int) (l : List Nt) : ∀ k, (YI m l k).length <= k
 | 0 => Nat.le_refl _
 | k + 1 => by
  have := CEG m l k
  unfold YI
  cases decide ((gD l k).mi >= m)
  ·simp only [cond_false]; omega
  ·simp only [cond_true, List.length_append, List.length_cons, List.length_nil]; omega
def Dif (l : List Nt) : Prop := l.Pairwise λ a b => a.mi ≠ b.mi
theorem E3 {l : List Nt} : Dif l ↔ ∀ i j, i < j -> j < l.length -> (gD l i).mi ≠ (gD l j).mi := by
 unfold Dif
 rw [List.pairwise_iff_getElem]
 have e : ∀ i (h : i < l.length), gD l i = l[i] := λ i h => by simp [gD, List.getD_eq_getElem?_getD, h]
 constructor
 ·intro h i j hij hj
  rw [e i (by omega), e j hj]; exact h i j _ _ hij
 ·intro h i j hi hj hij
  have := h i j hij hj
  rw [e i hi, e j hj] at this; exact this
theorem Dif.filter {l : List Nt} (h : Dif l) (p : Nt -> Bool) : Dif (l.filter p) := List.Pairwise.filter p h
theorem Dif.eq {l : List Nt} (h : Dif l) {a b : Nt} (ha : a ∈ l) (hb : b ∈ l) (e : a.mi = b.mi) : a = b := by
 obtain ⟨i, hi, e1⟩ := PN ha
 obtain ⟨j, hj, e2⟩ := PN hb
 rw [E3] at h
 rcases Nat.lt_trichotomy i j with q | q | q
 ·exact absurd (by rw [e1, e2, e]) (h i j q hj)
 ·subst q; rw [<- e1, e2]
 ·exact absurd (by rw [e1, e2, e]) (h j i q hi)
theorem Dif.ntOf {l : List Nt} (h : Dif l) {n : Nt} (hn : n ∈ l) : Bal.ntOf l n.mi = n := by
 obtain ⟨h1, h2⟩ := Ax (Da.2 ⟨n, hn, rfl⟩)
 exact h.eq h1 hn h2
theorem ChOk.dif {c : Cht} (h : ChOk c) : Dif c.ns := E3.2 h.one
theorem CPV {l r : List Nt} (hl : Dif l) (hr : Dif r) {i j : Int} (h1 : ∀ n ∈ l, n.mi = i -> ∃ q ∈ r, q.mi = j /\ q.t = n.t /\ q.s = n.s) (h2 : ∀ q ∈ r, q.mi = j -> ∃ n ∈ l, n.mi = i) : hasN r j = hasN l i /\ (hasN l i = true -> (ntOf r j).t = (ntOf l i).t /\ (ntOf r j).s = (ntOf l i).s) := by
 constructor
 ·rw [Bool.eq_iff_iff, Da, Da]
  exact ⟨λ ⟨q, a, b⟩ => h2 q a b, λ ⟨n, a, b⟩ => let ⟨q, c, d, _⟩ := h1 n a b; ⟨q, c, d⟩⟩
 ·intro h
  obtain ⟨n, a, b⟩ := Da.1 h
  obtain ⟨q, c, d, e, f⟩ := h1 n a b
  subst b; subst d
  rw [hl.ntOf a, hr.ntOf c]; exact ⟨e, f⟩
theorem AGX {c d : Cht} (hc : Dif c.ns) (hd : Dif d.ns) {i j : Nat} (h1 : ∀ n ∈ c.ns, n.mi = i -> ∃ q ∈ d.ns, q.mi = j /\ q.t = n.t /\ q.s = n.s) (h2 : ∀ q ∈ d.ns, q.mi = j -> ∃ n ∈ c.ns, n.mi = i)
  (e1 : d.base = c.base) (e2 : d.scale = c.scale) (e3 : d.off = c.off) (e4 : gD d.ms j = gD c.ms i) : FT d j = FT c i /\ DZ d j = DZ c i := by
 obtain ⟨q1, q2⟩ := CPV hc hd h1 h2
 have e0 : st0 d j = st0 c i := by unfold st0 atM; rw [e1, e2, e3, Int.toNat_natCast, Int.toNat_natCast, e4]
 unfold FT DZ
 rw [q1, e0]
 cases e : hasN c.ns (i : Int) with
 | false => exact ⟨rfl, rfl⟩
 | true => obtain ⟨a, b⟩ := q2 e; rw [a, b]; exact ⟨rfl, rfl⟩
end Go.Bal
