/- Package rating: what Proves, Knot and Through return for the fewest parts (no program in sight). -/
import Derived.Test.YtoihhodbkimedaaRT13
import Derived.Test.YtoihhodbkimedaaRatPw
import Derived.Test.YtoihhodbkimedaaRatU
import Derived.Test.YtoihhodbkimedaaRows
import Derived.WalkKit
import Derived.ProofKit
import Derived.OpenShut
import Derived.ShutString
import Derived.ChangeOld
import Derived.Below
import Derived.ChangeArms
import Derived.Test.YtoihhodbkimedaaRatZ
set_option linter.unusedVariables false
set_option linter.unusedSimpArgs false
namespace Go.Bal
open Go Go.Sym Go.Proofs
theorem AVJ {α β : Type} [Inhabited α] (f : α -> β) (l : List α) : (List.range l.length).map (λ i => f (gD l i)) = l.map f := by
 apply List.ext_getElem (by simp)
 intro i h1 h2
 simp at h1
 simp [gD, List.getD_eq_getElem?_getD, h1]
theorem ABJ (a : PV) : (Ig a).Perm (jU a) := by
 have h1 := (ABD (keyS (jU a)) (fB (jU a).length)).map λ x : Int => gD (jU a) x.toNat
 have e : (fB (jU a).length).map (λ x : Int => gD (jU a) x.toNat) = jU a := by
  unfold fB
  rw [List.map_map]
  have := AVJ (λ x : List Gau => x) (jU a)
  simpa [Function.comp_def] using this
 rw [e] at h1; exact h1
theorem BEZ {a : PV} : ∀ i, i + 1 < (Ig a).length -> fsS (gD (Ig a) i) <= fsS (gD (Ig a) (i + 1)) := λ i hi => by
 rw [AKF] at hi
 have := AMB (keyS (jU a)) (fB (jU a).length) i (i + 1) (by omega) (by rw [OE, Ff]; omega)
 rw [AVC (by omega), AVC (by omega)]
 exact this
theorem ANT {T : List (List Gau)} {i : Nat} : badP T i = false ↔ (CS (gD T i)).2 = false /\ (0 < i -> laS (gD T (i - 1)) <= fsS (gD T i)) := by
 unfold badP
 cases (CS (gD T i)).2 with
 | true => exact ⟨λ h => (by cases h), λ h => (by cases h.1)⟩
 | false =>
  by_cases h0 : 0 < i
  ·rw [decide_eq_true (show (i : Int) > 0 by omega)]
   show decide (laS (gD T (i - 1)) > fsS (gD T i)) = false ↔ _
   rw [decide_eq_false_iff_not]
   exact ⟨λ h => ⟨rfl, λ _ => by omega⟩, λ h => by have := h.2 h0; omega⟩
  ·rw [decide_eq_false (show ¬(i : Int) > 0 by omega)]
   exact ⟨λ _ => ⟨rfl, λ h => absurd h h0⟩, λ _ => rfl⟩
theorem BAM {T : List (List Gau)} : ∀ (n i : Nat), pW T n i = true ↔ ∀ j, i <= j -> j < i + n -> badP T j = false
 | 0, i => ⟨λ _ j h1 h2 => by omega, λ _ => rfl⟩
 | n + 1, i => by
  unfold pW
  cases hb : badP T i with
  | true => exact ⟨λ h => (by cases h), λ h => by rw [h i (Nat.le_refl _) (by omega)] at hb; cases hb⟩
  | false =>
   show pW T n (i + 1) = true ↔ _
   rw [BAM n (i + 1)]
   exact ⟨λ h j h1 h2 => by
    by_cases e : j = i
    ·rw [e]; exact hb
    ·exact h j (by omega) (by omega), λ h j h1 h2 => h j (by omega) (by omega)⟩
theorem BAW {g : List Gau} {m : Int} {k : List (List Int)} {o : Bool} (hc : AZ g = 0) (hk : k.length <= 24) (hn : ∀ i, i < k.length -> (Vh ⟨g, gD k i⟩).2 = true) : bI ⟨g, m, k, o⟩ = 0 /\ (lT ⟨g, m, k, o⟩ = true ↔ m <= k.length + 1 /\ (∀ s ∈ jU ⟨g, m, k, o⟩, ¬Can s) /\ ∀ i, i + 1 < (Ig ⟨g, m, k, o⟩).length -> laS (gD (Ig ⟨g, m, k, o⟩) i) <= fsS (gD (Ig ⟨g, m, k, o⟩) (i + 1))) := by
 generalize ha : (⟨g, m, k, o⟩ : PV) = a
 have hc : AZ a.g = 0 := by rw [<- ha]; exact hc
 have hk : a.k.length <= 24 := by rw [<- ha]; exact hk
 have hn : ∀ i, i < a.k.length -> (Vh ⟨a.g, gD a.k i⟩).2 = true := by rw [<- ha]; exact hn
 have em : m = a.m := by rw [<- ha]
 have ek : k = a.k := by rw [<- ha]
 rw [em, ek]
 obtain ⟨⟨hl1, hl2⟩, ho⟩ := MP hc
 obtain ⟨e1, e2⟩ := BTH hc hk (ABR.2 hn)
 refine ⟨e1, ?_⟩
 have w : wr ((a.k.length : Int) + 1) = (a.k.length : Int) + 1 := LS (by omega) (by omega)
 have cn : ∀ i, i < (Ig a).length -> ((CS (gD (Ig a) i)).2 = false ↔ ¬Can (gD (Ig a) i)) := λ i hi => by
  rw [AKF] at hi
  obtain ⟨j, hj, e⟩ := BTU hi
  have := (AYA (a := ⟨a.g, gD a.k j⟩) (show a.g.length < 1073741824 by omega) (hn j hj)).2
  rw [e]
  have hL := (lJ (s := Ij ⟨a.g, gD a.k j⟩) λ x hx => ho x (this.sub x hx)).1
  rw [<- hL]; simp
 rw [e2, w]
 have key : pW (Ig a) (Ig a).length 0 = true ↔ (∀ s ∈ jU a, ¬Can s) /\ ∀ i, i + 1 < (Ig a).length -> laS (gD (Ig a) i) <= fsS (gD (Ig a) (i + 1)) := by
  rw [BAM]
  constructor
  ·intro h
   refine ⟨λ s hs => ?_, λ i hi => ?_⟩
   ·obtain ⟨i, hi, rfl⟩ := YL ((ABJ a).mem_iff.2 hs)
    exact (cn i hi).1 (ANT.1 (h i (Nat.zero_le _) (by omega))).1
   ·exact (ANT.1 (h (i + 1) (Nat.zero_le _) (by omega))).2 (Nat.succ_pos _)
  ·rintro ⟨h1, h2⟩ j _ hj
   have hj : j < (Ig a).length := by omega
   refine ANT.2 ⟨(cn j hj).2 (h1 _ ((ABJ a).mem_iff.1 (DU hj))), λ h0 => ?_⟩
   have := h2 (j - 1) (by omega)
   rwa [show j - 1 + 1 = j by omega] at this
 cases hq : pW (Ig a) (Ig a).length 0 with
 | true =>
  show decide (a.m <= (a.k.length : Int) + 1) = true ↔ _
  rw [decide_eq_true_iff]
  exact ⟨λ h => ⟨h, key.1 hq⟩, λ h => h.1⟩
 | false => exact ⟨λ h => (by cases h), λ h => by rw [key.2 h.2] at hq; cases hq⟩
theorem Few.prv {g : List Gau} {b : List Int} {l : List Ln} {k : List (List Int)} (W : Few g b l k) (hc : AZ g = 0) {k' : List (List Int)} (hp : k'.Perm k) (m : Int) (o : Bool) : bI ⟨g, m, k', o⟩ = 0 /\ lT ⟨g, m, k', o⟩ = decide (m <= k.length + 1) := by
 have hl := hp.length_eq
 have hk : k.length <= 24 := by
  have := W.lenk
  have := W.few
  omega
 have kn : ∀ z ∈ k, XU ⟨g, z⟩ = true /\ (Vh ⟨g, z⟩).2 = true /\ SetOk g (Ij ⟨g, z⟩) /\ ¬Can (Ij ⟨g, z⟩) := λ z hz => by
  obtain ⟨i, hi, rfl⟩ := YL hz
  have := W.knot hc (i := i) (by rw [<- W.lenk]; exact hi)
  exact ⟨this.tied, this.nm, this.set, this.no⟩
 obtain ⟨e1, e2⟩ := BAW (g := g) (m := m) (k := k') (o := o) hc (by omega) λ i hi => (kn _ (hp.mem_iff.1 (DU hi))).2.1
 refine ⟨e1, ?_⟩
 have hS : ∀ s ∈ jU ⟨g, m, k', o⟩, ¬Can s /\ fsS s < laS s := λ s hs => by
  obtain ⟨z, hz, rfl⟩ := List.mem_map.1 hs
  have := kn z (hp.mem_iff.1 hz)
  exact ⟨this.2.2.2, this.2.2.1.lt⟩
 have hq : (jU ⟨g, m, k', o⟩).Perm (k.map λ z => Ij ⟨g, z⟩) := hp.map _
 have ch := AYD ((ABJ ⟨g, m, k', o⟩).trans hq) (W.apart hc) (λ s hs => (hS s (hq.mem_iff.2 hs)).2) BEZ
 by_cases hm : m <= k.length + 1
 ·rw [decide_eq_true hm]
  exact e2.2 ⟨by omega, λ s hs => (hS s hs).1, ch⟩
 ·rw [decide_eq_false hm]
  cases hq : lT ⟨g, m, k', o⟩ with
  | false => rfl
  | true => have := (e2.1 hq).1; omega
theorem Few.prv_le {g : List Gau} {b : List Int} {l : List Ln} {k : List (List Int)} (W : Few g b l k) (hc : AZ g = 0) {q : List (List Int)} (hq : q.length <= 24) (hn : ∀ i, i < q.length -> (Vh ⟨g, gD q i⟩).2 = true) (m : Int) (o : Bool) : bI ⟨g, m, q, o⟩ = 0 /\ (lT ⟨g, m, q, o⟩ = true -> m <= l.length) := by
 obtain ⟨e1, e2⟩ := BAW (m := m) (o := o) hc hq hn
 refine ⟨e1, λ h => ?_⟩
 obtain ⟨h1, h2, h3⟩ := e2.1 h
 obtain ⟨⟨hl1, hl2⟩, ho⟩ := MP hc
 have hin : ∀ s ∈ Ig ⟨g, m, q, o⟩, SetOk g s /\ ¬Can s := λ s hs => by
  have hs := (ABJ _).mem_iff.1 hs
  refine ⟨?_, h2 s hs⟩
  obtain ⟨z, hz, rfl⟩ := List.mem_map.1 hs
  obtain ⟨i, hi, rfl⟩ := YL hz
  exact (AYA (a := ⟨g, gD q i⟩) (show g.length < 1073741824 by omega) (hn i hi)).2
 have := BLW (b := b) (W.thru hc).can hin h3
 rw [AKF] at this
 have e : (PV.mk g m q o).k.length = q.length := rfl
 have := W.lenl
 omega
end Go.Bal

set_option maxRecDepth 100000
namespace Go.Bal
open Go Go.Sym Go.Proofs Go.ChangeShapes Go.WideShapes Go.RowKit
theorem BQY {α : Type} [Inhabited α] (f : Nat -> α) {n i : Nat} (h : i < n) : gD ((List.range n).map f) i = f i := by
 simp [gD, List.getD_eq_getElem?_getD, h]
def AJX (w : World) : Fr := λ b => match w.heap[b]? with
 | some (.cells c _ _) => some c
 | _ => none
theorem BSQ (w : World) (ι : Nat -> Pl) : HRel (AJX w) ι (AD []) w := by
 refine ⟨λ i o h => by simp [AD, KD] at h, λ i j o o' h => by simp [AD, KD] at h, λ i o h => by simp [AD, KD] at h, λ b c h => ?_⟩
 unfold AJX at h
 split at h
 ·rename_i c' e fr hc
  cases h
  exact ⟨e, fr, hc⟩
 ·cases h
theorem AZK {w : World} {b off : Nat} {v : Value} (h : w.cell? ⟨b, off, none⟩ = some v) : ∃ c, AJX w b = some c /\ c[off]? = some v := by
 unfold World.cell? at h
 simp only at h
 split at h
 ·rename_i c e fr hc
  simp only [Option.isSome_none, Bool.false_eq_true, ↓reduceIte] at h
  exact ⟨c, by unfold AJX; rw [hc], h⟩
 ·cases h
section
variable {X : Type} {enc : TypeId × Value -> X} {P : Program} {w : World} {base : Nat} {spare : Nat -> Bool} {held : Bool}
def BMP (X : Type) (enc : TypeId × Value -> X) (P : Program) (w : World) (base : Nat) (spare : Nat -> Bool) (held : Bool) (e : TypeId) (k : Nat) {α : Type} (en : α -> DVal) : Prop :=
 P.cellsOf e = k /\ ∀ (fuel : Nat) (cs : List Value) (x : DataW X × List MemPlace), DataW.trod enc P w base spare held fuel e cs = some x -> cs.length = k -> ∃ d : α, (en d).cells1 = cs.map DVal.v /\ GC (en d).cells1 = true
theorem BVB {α : Type} [Inhabited α] {t e : TypeId} {k : Nat} {en : α -> DVal} (hk : 0 < k) (ht : P.underlying t = some (.slice e)) (he : BMP X enc P w base spare held e k en) {fuel : Nat} {v : Value} {x : DataW X × List MemPlace}
  (h : DataW.trod enc P w base spare held fuel t [v] = some x) : ∃ l : List α, DRel (AJX w) (lst k l.length λ i => en (gD l i)) v := by
 rcases DataW.trod_slice ht h with ⟨h0, _⟩ | ⟨a, len, cap, elems, rest, n, _, hv, _, hb, hl, hm, hlen, hel, _⟩
 ·cases h0
  exact ⟨[], .nil (λ h => by cases h) (.inl rfl)⟩
 ·cases hv
  by_cases h0 : len = 0
  ·subst h0
   exact ⟨[], .nil (λ h => by cases h) (.inr (by simp))⟩
  obtain ⟨hck, hE⟩ := he
  have each : ∀ i, ∃ (d : α) (cs : List Value), i < len -> w.cells? base (a.add (i * k)) k = some cs /\ (en d).cells1 = cs.map DVal.v /\ GC (en d).cells1 = true := by
   intro i
   by_cases hi : i < len
   ·have h1 := hel i hi
    have h2 : elems[i]? = some (elems[i]'(by omega)) := List.getElem?_eq_getElem (by omega)
    rw [h2, Option.bind_eq_some_iff] at h1
    obtain ⟨cs, h3, h4⟩ := h1
    rw [hck] at h3
    obtain ⟨d, h5⟩ := hE n cs _ h4 (World.cells?_some h3).2.1
    exact ⟨d, cs, λ _ => ⟨h3, h5⟩⟩
   ·exact ⟨default, [], λ h => absurd h hi⟩
  have cell : ∀ i j, i < len -> j < k -> ∃ y, (en (Classical.choose (each i))).cells1[j]? = some (.v y) /\ w.cell? ((a.add (i * k)).add j) = some y := by
   intro i j hi hj
   obtain ⟨cs, hcs⟩ := Classical.choose_spec (each i)
   obtain ⟨h1, h2, _⟩ := hcs hi
   obtain ⟨_, h3, h4⟩ := World.cells?_some h1
   have h5 : cs[j]? = some (cs[j]'(by omega)) := List.getElem?_eq_getElem (by omega)
   refine ⟨cs[j]'(by omega), ?_, ?_⟩
   ·rw [h2, List.getElem?_map, h5]; rfl
   ·rw [h4 j hj, h5]
  have hspot : a.spot = none := by
   obtain ⟨y, _, h1⟩ := cell 0 0 (by omega) hk
   have := World.cell?_spot h1
   simpa [Addr.add] using this
  obtain ⟨b, off, spot⟩ := a
  simp only at hspot
  subst hspot
  have cell' : ∀ i j, i < len -> j < k -> ∃ y, (en (Classical.choose (each i))).cells1[j]? = some (.v y) /\ w.cell? ⟨b, off + i * k + j, none⟩ = some y := by
   intro i j hi hj
   obtain ⟨y, h1, h2⟩ := cell i j hi hj
   refine ⟨y, h1, ?_⟩
   have : ((Addr.mk b off none).add (i * k)).add j = ⟨b, off + i * k + j, none⟩ := by
    unfold Addr.add
    split <;> split <;> simp_all
   rw [<- this]; exact h2
  obtain ⟨y0, _, hc0⟩ := cell' 0 0 (by omega) hk
  obtain ⟨c, hB, _⟩ := AZK hc0
  have at' : ∀ i j, i < len -> j < k -> ∃ y, (en (Classical.choose (each i))).cells1[j]? = some (.v y) /\ c[off + i * k + j]? = some y := by
   intro i j hi hj
   obtain ⟨y, h1, h2⟩ := cell' i j hi hj
   obtain ⟨c', h3, h4⟩ := AZK h2
   rw [hB] at h3; cases h3
   exact ⟨y, h1, h4⟩
  have hg : ∀ i, i < len -> gD ((List.range len).map λ i => Classical.choose (each i)) i = Classical.choose (each i) := λ i hi => BQY _ hi
  have hll : ((List.range len).map λ i => Classical.choose (each i)).length = len := by simp
  refine ⟨(List.range len).map λ i => Classical.choose (each i), ?_⟩
  rw [hll]
  have e1 : ∀ i, i < len -> (en (Classical.choose (each i))).cells1.length = k := by
   intro i hi
   obtain ⟨cs, hcs⟩ := Classical.choose_spec (each i)
   obtain ⟨h1, h2, _⟩ := hcs hi
   rw [h2, List.length_map]; exact (World.cells?_some h1).2.1
  refine DRel.list (by omega) hB hl (λ h => by cases h) (λ i hi => ?_) ?_ (λ i j x y hi hx hy => ?_)
  ·rw [hg i hi]
   obtain ⟨cs, hcs⟩ := Classical.choose_spec (each i)
   exact ⟨e1 i hi, (hcs hi).2.2⟩
  ·obtain ⟨y, _, h1⟩ := at' (len - 1) (k - 1) (by omega) (by omega)
   have h2 := (Array.getElem?_eq_some_iff.1 h1).1
   have h3 : len * k = (len - 1) * k + k := by
    obtain ⟨m, rfl⟩ : ∃ m, len = m + 1 := ⟨len - 1, by omega⟩
    rw [Nat.add_sub_cancel, Nat.succ_mul]
   omega
  ·rw [hg i hi] at hx
   have hj : j < k := by
    have := (List.getElem?_eq_some_iff.1 hx).1
    have := e1 i hi
    omega
   obtain ⟨z, h1, h2⟩ := at' i j hi hj
   rw [h1] at hx; rw [h2] at hy
   cases hx; cases hy
   exact .v _
end
def okBy (bs : List Int) : Prop := ∀ i, i < bs.length -> 0 <= gD bs i /\ gD bs i <= 255
section
variable {X : Type} {enc : TypeId × Value -> X} {w : World} {base : Nat} {spare : Nat -> Bool} {held : Bool}
abbrev Byt := { n : Int // 0 <= n /\ n <= 255 }
instance : Inhabited Byt := ⟨⟨0, by decide, by decide⟩⟩
theorem BKP : BMP X enc Try.prog w base spare held 5 1 (λ b : Byt => .v (.int .u8 b.val)) := by
 refine ⟨by kernel_rfl, λ fuel cs x h hl => ?_⟩
 obtain ⟨n, rfl, _, hw⟩ := DataW.trod_int Try.underlying5 h
 have hw : (decide (IntKind.u8.min <= n) && decide (n <= IntKind.u8.max)) = true := hw
 simp only [Bool.and_eq_true, decide_eq_true_eq] at hw
 have e1 : IntKind.u8.min = 0 := rfl
 have e2 : IntKind.u8.max = 255 := rfl
 exact ⟨⟨n, by omega, by omega⟩, rfl, rfl⟩
theorem ATQ {v : Value} {d : DataW X} {ps : List MemPlace} {r : Go.Reach} {b0 : Nat} (hv : Value.okWide Try.prog w r b0 22 v) (h : DataW.Trod enc Try.prog w base spare held 22 v d ps) : ∃ l : List Int, okBy l /\ DRel (AJX w) (eBys l) v := by
 obtain ⟨a, len, cap, rfl⟩ := okWide_slice Try.underlying22 hv
 obtain ⟨fuel, hf⟩ := h
 obtain ⟨l, hl⟩ := BVB (by omega) Try.underlying22 BKP hf
 have hg : ∀ i, gD (l.map Subtype.val) i = (gD l i).val := λ i => by
  simp only [gD, List.getD_eq_getElem?_getD, List.getElem?_map]
  cases l[i]? <;> rfl
 refine ⟨l.map Subtype.val, λ i hi => by rw [hg]; exact (gD l i).2, ?_⟩
 unfold eBys
 rw [List.length_map]
 have e : (λ i => DVal.v (.int .u8 (gD (l.map Subtype.val) i))) = λ i => DVal.v (.int .u8 (gD l i).val) := by funext i; rw [hg]
 rw [e]; exact hl
end
theorem BMF {g : FuncId} {xs : List AVal} (hg : FnT Try.prog g xs (AD []) (.bool true) []) {w : World} {vs : Array Value} (hl : vs.size = xs.length)
  (hx : ∀ (j : Nat) (a : AVal) (y : Value), xs[j]? = some a -> vs[j]? = some y -> ∃ d, a = .d d /\ DRel (AJX w) d y) :
  Calls Try.prog g vs w λ e w' => e = .returned (.bool true) /\ Below w.heap.size w w' := by
 refine (hg.2 (AJX w) (λ _ => ⟨0, 0⟩) w vs ⟨hl, λ j a y ha hy => ?_⟩ (BSQ w _)).mono λ e w' ⟨v, H', he, _, B', ι', hm, hv⟩ => ?_
 ·obtain ⟨d, rfl, hd⟩ := hx j a y ha hy
  exact .d hd
 ·subst he
  cases hv with
  | d hd =>
   cases hd
   exact ⟨rfl, hm.calm.os, hm.calm.tape, hm.calm.output, hm.size, λ k hk => hm.frame k hk λ i o h => by simp [AD, KD] at h⟩
end Go.Bal

namespace Go.Bal
open Go Go.Sym Go.Proofs
structure FwI where
 bs : List Int
 cs : List Int
structure FwY where
 l : List Gau
 s : Stm
 deriving Inhabited
def fxM (x : FwI) : MkI := ⟨⟨x.bs, 0, 0⟩, 10⟩
def fxG (x : FwI) : List Gau := iL (fxM x)
def spG (s : Stm) (g : Gau) : Gau := ⟨g.st, AV s 150, wr (AV s 150 + AV (BG s 150) 9)⟩
def spY (y : FwY) (i : Nat) : FwY := bif AV y.s 4 == 0 then ⟨y.l.set i (spG (BG y.s 4) (gD y.l i)), BG (BG (BG y.s 4) 150) 9⟩ else ⟨y.l, BG y.s 4⟩
def fxK (x : FwI) : Nat -> FwY
 | 0 => ⟨fxG x, ⟨x.cs, 0, 0⟩⟩
 | k + 1 => spY (fxK x k) k
def Fi (x : FwI) : List Gau := (fxK x (fxG x).length).l
def fxS (x : FwI) : Stm := (fxK x (fxG x).length).s
def fxR (x : FwI) : Rtg := (EK (Fi x)).r
def fxQ (x : FwI) : List (List Int) := (EK (Fi x)).k
theorem AKW (x : FwI) (h : okBy x.bs) : (1 <= (fxG x).length /\ (fxG x).length <= 10) /\ ∀ g ∈ fxG x, XH g := by
 have hp : preM (fxM x) := ⟨⟨⟨Int.le_refl _, Int.le_refl _⟩, ⟨Int.le_refl _, by show (0 : Int) < 251; omega⟩, h⟩, by show (1 : Int) <= 10; omega, by show (10 : Int) <= 100; omega⟩
 obtain ⟨h1, h2⟩ := BKT hp
 exact ⟨⟨h1.len, h2⟩, h1.ok⟩
theorem AVB {x : FwI} (h : okBy x.bs) (h2 : okBy x.cs) : ∀ k, k <= (fxG x).length -> (fxK x k).l.length = (fxG x).length /\ (∀ g ∈ (fxK x k).l, XH g) /\ StmB (3 * k) (fxK x k).s
 | 0, _ => ⟨rfl, (AKW x h).2, ⟨⟨Int.le_refl _, Int.le_refl _⟩, ⟨Int.le_refl _, by show (0 : Int) < 251; omega⟩, h2⟩⟩
 | k + 1, hk => by
  obtain ⟨a1, a2, a3⟩ := AVB h h2 k (by omega)
  have hn := (AKW x h).1
  have s1 := a3.next (by omega) 4
  have s2 := s1.next (by omega) 150
  have s3 := s2.next (by omega) 9
  have v1 := NF s1 (by omega) 150
  have v2 := NF s2 (by omega) 9
  show (spY (fxK x k) k).l.length = _ /\ (∀ g ∈ (spY (fxK x k) k).l, XH g) /\ StmB (3 * ((k + 1 : Nat) : Int)) (spY (fxK x k) k).s
  unfold spY
  cases AV (fxK x k).s 4 == 0
  ·exact ⟨a1, a2, s1.mono (by omega)⟩
  ·refine ⟨by show ((fxK x k).l.set k _).length = _; rw [List.length_set]; exact a1, λ g hg => ?_, s3.mono (by omega)⟩
   rcases List.mem_or_eq_of_mem_set (show g ∈ (fxK x k).l.set k _ from hg) with hg | hg
   ·exact a2 g hg
   ·have := a2 _ (DU (l := (fxK x k).l) (k := k) (by omega))
    have b1 := v1.2 (by omega)
    have b2 := v2.2 (by omega)
    have e : wr (AV (BG (fxK x k).s 4) 150 + AV (BG (BG (fxK x k).s 4) 150) 9) = AV (BG (fxK x k).s 4) 150 + AV (BG (BG (fxK x k).s 4) 150) 9 := LS (by omega) (by omega)
    rw [hg]
    unfold spG XH at *
    simp only [e]
    omega
structure FxOk (x : FwI) : Prop where
 len : 1 <= (Fi x).length /\ (Fi x).length <= 10
 same : (Fi x).length = (fxG x).length
 ok : ∀ g ∈ Fi x, XH g
 chk : AZ (Fi x) = 0
 st : StmB 30 (fxS x)
theorem CFQ {x : FwI} (h : okBy x.bs) (h2 : okBy x.cs) : FxOk x := by
 obtain ⟨a1, a2, a3⟩ := AVB h h2 _ (Nat.le_refl _)
 have hn := (AKW x h).1
 have e : (Fi x).length = (fxG x).length := a1
 exact ⟨by omega, e, a2, ANW ⟨by omega, by omega⟩ a2, a3.mono (by omega)⟩
theorem ARI {g : List Gau} {o : List Int} : ∀ (n : Nat) (s : FS), (Sp g o n s).e ≠ 0 -> (Sp g o n s).k = [] /\ (Sp g o n s).r.b = []
 | 0, s, h => absurd rfl h
 | n + 1, s, h => by
  unfold Sp at h ⊢
  cases h1 : decide (s.to < o.length) with
  | false => rw [h1] at h; exact absurd rfl h
  | true =>
   rw [h1] at h
   cases h2 : (CS (sS g o s.to (In g o s.to))).2 with
   | false => exact ⟨rfl, rfl⟩
   | true =>
    rw [h2] at h
    cases h3 : (CS (sS g o s.fr (In g o s.to))).2 with
    | false => rw [h3] at h; exact ARI n _ h
    | true => rw [h3] at h; exact ARI n _ h
theorem BIN {g : List Gau} (h : (EK g).e ≠ 0) : (EK g).k = [] /\ (EK g).r.b = [] := by
 unfold EK at h ⊢
 cases hc : AZ g == 0 with
 | false => exact ⟨rfl, rfl⟩
 | true => rw [hc] at h; exact ARI _ _ h
theorem BWG {g : List Gau} (hc : AZ g = 0) : (EK g).k = [] ↔ (EK g).r.b = [] := by
 by_cases h : (EK g).e = 0
 ·rcases BFR hc with ⟨h1, _⟩ | ⟨_, W⟩
  ·omega
  ·have := W.lenk
   constructor
   ·intro e; rw [e] at this; exact List.eq_nil_of_length_eq_zero this.symm
   ·intro e; rw [e] at this; exact List.eq_nil_of_length_eq_zero this
 ·obtain ⟨h1, h2⟩ := BIN h
  rw [h1, h2]; simp
theorem BZL {g : List Gau} (hc : AZ g = 0) (h : (EK g).e = 0) : Few g (EK g).r.b (EK g).r.l (EK g).k := by
 rcases BFR hc with ⟨h1, _⟩ | ⟨_, W⟩
 ·omega
 ·exact W
theorem CEJ {g : List Gau} (hc : AZ g = 0) (h : (EK g).e ≠ 0) : (EK g).e = 6 /\ ∃ i j, j < i /\ i < g.length /\ (bif (gD g i).st == (gD g j).st then (bif decide ((gD g i).lo > (gD g j).hi) then true else decide ((gD g j).lo > (gD g i).hi)) else false) = true := by
 obtain ⟨h1, i, j, h2, h3, h4, h5⟩ := BXV hc h
 refine ⟨h1, i, j, h2, h3, ?_⟩
 rw [show ((gD g i).st == (gD g j).st) = true from beq_iff_eq.2 h4]
 rcases h5 with h5 | h5
 ·rw [decide_eq_true h5]; rfl
 ·rw [decide_eq_true h5]; cases decide ((gD g i).lo > (gD g j).hi) <;> rfl
theorem AVG {g : List Gau} {b : List Int} {l : List Ln} {k : List (List Int)} (W : Few g b l k) (hc : AZ g = 0) {c : List Int} (h1 : asc c) (h2 : ∀ y ∈ c, 1 <= y /\ y <= 2000) (h3 : c.length <= 24) : DQ ⟨g, c⟩ = 0 /\ (wS ⟨g, c⟩ = true -> b.length <= c.length) := by
 refine ⟨?_, λ h => W.least (BWD (MP hc).2 h)⟩
 show (bif AZ g == 0 then Kt c else AZ g) = 0
 rw [hc]; exact AUZ h1 h2 h3
theorem CEL {b c : List Int} {j : Nat} (hb : asc b) (hl : c.length + 1 = b.length) (h : ∀ i, i < c.length -> gD c i = gD b (if i < j then i else i + 1)) : asc c /\ ∀ y ∈ c, y ∈ b := by
 constructor
 ·refine List.pairwise_iff_getElem.2 λ p q hp hq hpq => ?_
  have e1 : c[p] = gD c p := by simp [gD, List.getD_eq_getElem?_getD, hp]
  have e2 : c[q] = gD c q := by simp [gD, List.getD_eq_getElem?_getD, hq]
  rw [e1, e2, h p hp, h q hq]
  refine We hb ?_ ?_
  ·split <;> split <;> omega
  ·split <;> omega
 ·intro y hy
  obtain ⟨i, hi, rfl⟩ := YL hy
  rw [h i hi]
  refine DU ?_
  split <;> omega
theorem Few.del {g : List Gau} {b : List Int} {l : List Ln} {k : List (List Int)} (W : Few g b l k) (hc : AZ g = 0) {c : List Int} {j : Nat} (hl : c.length + 1 = b.length) (h : ∀ i, i < c.length -> gD c i = gD b (if i < j then i else i + 1)) : DQ ⟨g, c⟩ = 0 /\ wS ⟨g, c⟩ = false := by
 obtain ⟨h1, h2⟩ := CEL W.asc hl h
 have hf := W.few
 obtain ⟨a1, a2⟩ := AVG W hc h1 (λ y hy => W.brk y (h2 y hy)) (by omega)
 refine ⟨a1, ?_⟩
 cases hq : wS ⟨g, c⟩ with
 | false => rfl
 | true => have := a2 hq; omega
theorem Few.kn {g : List Gau} {b : List Int} {l : List Ln} {k : List (List Int)} (W : Few g b l k) (hc : AZ g = 0) {i : Nat} (hi : i < k.length) : Lq ⟨g, gD k i⟩ = 0 /\ Us ⟨g, gD k i⟩ = true := by
 have hk := W.knot hc (i := i) (by rw [<- W.lenk]; exact hi)
 have e : Lq ⟨g, gD k i⟩ = 0 := by
  unfold Lq
  rw [show AZ (GK.mk g (gD k i)).g = 0 from hc, hk.nm]; rfl
 refine ⟨e, ?_⟩
 have := hk.tied
 unfold XU at this
 rw [hk.nm] at this
 unfold Us; rw [e]; exact this
theorem Few.lt {g : List Gau} {b : List Int} {l : List Ln} {k : List (List Int)} (W : Few g b l k) (hc : AZ g = 0) : b.length < g.length := by
 obtain ⟨P, hp⟩ := W.parts
 have h0 := (MP hc).1
 have key : ∀ i, i <= b.length -> i <= gD P i := λ i => by
  induction i with
  | zero => intro _; omega
  | succ i ih =>
   intro h
   have := (hp.up i (by omega)).1
   have := ih (by omega)
   omega
 by_cases hz : b.length = 0
 ·omega
 ·have h1 := (hp.up (b.length - 1) (by omega)).2.1
  have h2 := key b.length (Nat.le_refl _)
  rw [show b.length - 1 + 1 = b.length by omega] at h1
  omega
theorem Few.short {g : List Gau} {b : List Int} {l : List Ln} {k : List (List Int)} (W : Few g b l k) (hc : AZ g = 0) {i : Nat} (hi : i < k.length) : (gD k i).length <= 3 := by
 have hk := W.knot hc (i := i) (by rw [<- W.lenk]; exact hi)
 obtain ⟨⟨h1, h2⟩, _⟩ := MP hc
 have := bZ (a := ⟨g, gD k i⟩) (show g.length < 1073741824 by omega) (ALT hk.nm).1
 exact this.2.1
end Go.Bal
