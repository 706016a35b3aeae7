/- Arguments that came in, as data; and what a call that owns nothing leaves. -/
import Derived.Test.YtonddbmhljelgaaBalH
import Derived.Test.YtonddbmhljelgaaRows
import Derived.WalkKit
import Derived.ProofKit
import Derived.OpenShut
import Derived.ShutString
import Derived.ChangeOld
import Derived.Below
import Derived.ChangeArms
import Derived.Test.YtonddbmhljelgaaBalMk
import Derived.Test.YtonddbmhljelgaaBalR
import Derived.Test.YtonddbmhljelgaaBalT20
import Derived.Test.YtonddbmhljelgaaBalX
import Derived.Test.YtonddbmhljelgaaBalMk3
set_option linter.unusedVariables false
set_option linter.unusedSimpArgs false
set_option maxRecDepth 100000
namespace Go.Bal
open Go Go.Sym Go.Proofs Go.ChangeShapes Go.WideShapes Go.RowKit
def WU (w : World) : Imm := λ b => match w.heap[b]? with
 | some (.cells c _ _) => some c
 | _ => none
theorem Oh (w : World) (ι : Nat -> Pl) : HRel (WU w) ι (AE []) w := by
 refine ⟨λ i o h => by simp [AE, DA] at h, λ i j o o' h => by simp [AE, DA] at h, λ i o h => by simp [AE, DA] at h, λ b c h => ?_⟩
 unfold WU at h
 split at h
 ·rename_i c' e fr hc
  cases h
  exact ⟨e, fr, hc⟩
 ·cases h
theorem Ft {w : World} {b off : Nat} {v : Value} (h : w.cell? ⟨b, off, none⟩ = some v) : ∃ c, WU w b = some c /\ c[off]? = some v := by
 unfold World.cell? at h
 simp only at h
 split at h
 ·rename_i c e fr hc
  simp only [Option.isSome_none, Bool.false_eq_true, ↓reduceIte] at h
  exact ⟨c, by unfold WU; rw [hc], h⟩
 ·cases h
section
variable {X : Type} {enc : TypeId × Value -> X} {P : Program} {w : World} {base : Nat} {spare : Nat -> Bool} {held : Bool}
def Pe (X : Type) (enc : TypeId × Value -> X) (P : Program) (w : World) (base : Nat) (spare : Nat -> Bool) (held : Bool) (e : TypeId) (k : Nat) {α : Type} (en : α -> DVal) : Prop :=
 P.cellsOf e = k /\ ∀ (fuel : Nat) (cs : List Value) (x : DataW X × List MemPlace), DataW.trod enc P w base spare held fuel e cs = some x -> cs.length = k -> ∃ d : α, (en d).cells1 = cs.map DVal.v /\ BO (en d).cells1 = true
theorem Qu {α : Type} [Inhabited α] {t e : TypeId} {k : Nat} {en : α -> DVal} (hk : 0 < k) (ht : P.underlying t = some (.slice e)) (he : Pe X enc P w base spare held e k en) {fuel : Nat} {v : Value} {x : DataW X × List MemPlace}
  (h : DataW.trod enc P w base spare held fuel t [v] = some x) : ∃ l : List α, DRel (WU w) (Pw k l.length λ i => en (gD l i)) v := by
 rcases DataW.trod_slice ht h with ⟨h0, _⟩ | ⟨a, len, cap, elems, rest, n, _, hv, _, hb, hl, hm, hlen, hel, _⟩
 ·cases h0
  exact ⟨[], .nil (λ h => by cases h) (.inl rfl)⟩
 ·cases hv
  by_cases h0 : len = 0
  ·subst h0
   exact ⟨[], .nil (λ h => by cases h) (.inr (by simp))⟩
  obtain ⟨hck, hE⟩ := he
  have each : ∀ i, ∃ (d : α) (cs : List Value), i < len -> w.cells? base (a.add (i * k)) k = some cs /\ (en d).cells1 = cs.map DVal.v /\ BO (en d).cells1 = true := by
   intro i
   by_cases hi : i < len
   ·have h1 := hel i hi
    have h2 : elems[i]? = some (elems[i]'(by omega)) := List.getElem?_eq_getElem (by omega)
    rw [h2, Option.bind_eq_some_iff] at h1
    obtain ⟨cs, h3, h4⟩ := h1
    rw [hck] at h3
    obtain ⟨d, h5⟩ := hE n cs _ h4 (World.cells?_some h3).2.1
    exact ⟨d, cs, λ _ => ⟨h3, h5⟩⟩
   ·exact ⟨default, [], λ h => absurd h hi⟩
  have cell : ∀ i j, i < len -> j < k -> ∃ y, (en (Classical.choose (each i))).cells1[j]? = some (.v y) /\ w.cell? ((a.add (i * k)).add j) = some y := by
   intro i j hi hj
   obtain ⟨cs, hcs⟩ := Classical.choose_spec (each i)
   obtain ⟨h1, h2, _⟩ := hcs hi
   obtain ⟨_, h3, h4⟩ := World.cells?_some h1
   have h5 : cs[j]? = some (cs[j]'(by omega)) := List.getElem?_eq_getElem (by omega)
   refine ⟨cs[j]'(by omega), ?_, ?_⟩
   ·rw [h2, List.getElem?_map, h5]; rfl
   ·rw [h4 j hj, h5]
  have hspot : a.spot = none := by
   obtain ⟨y, _, h1⟩ := cell 0 0 (by omega) hk
   have := World.cell?_spot h1
   simpa [Addr.add] using this
  obtain ⟨b, off, spot⟩ := a
  simp only at hspot
  subst hspot
  have cell' : ∀ i j, i < len -> j < k -> ∃ y, (en (Classical.choose (each i))).cells1[j]? = some (.v y) /\ w.cell? ⟨b, off + i * k + j, none⟩ = some y := by
   intro i j hi hj
   obtain ⟨y, h1, h2⟩ := cell i j hi hj
   refine ⟨y, h1, ?_⟩
   have : ((Addr.mk b off none).add (i * k)).add j = ⟨b, off + i * k + j, none⟩ := by
    unfold Addr.add
    split <;> split <;> simp_all
   rw [<- this]; exact h2
  obtain ⟨y0, _, hc0⟩ := cell' 0 0 (by omega) hk
  obtain ⟨c, hB, _⟩ := Ft hc0
  have at' : ∀ i j, i < len -> j < k -> ∃ y, (en (Classical.choose (each i))).cells1[j]? = some (.v y) /\ c[off + i * k + j]? = some y := by
   intro i j hi hj
   obtain ⟨y, h1, h2⟩ := cell' i j hi hj
   obtain ⟨c', h3, h4⟩ := Ft h2
   rw [hB] at h3; cases h3
   exact ⟨y, h1, h4⟩
  have hg : ∀ i, i < len -> gD ((List.range len).map λ i => Classical.choose (each i)) i = Classical.choose (each i) := λ i hi => DU _ hi
  have hll : ((List.range len).map λ i => Classical.choose (each i)).length = len := by simp
  refine ⟨(List.range len).map λ i => Classical.choose (each i), ?_⟩
  rw [hll]
  have e1 : ∀ i, i < len -> (en (Classical.choose (each i))).cells1.length = k := by
   intro i hi
   obtain ⟨cs, hcs⟩ := Classical.choose_spec (each i)
   obtain ⟨h1, h2, _⟩ := hcs hi
   rw [h2, List.length_map]; exact (World.cells?_some h1).2.1
  refine DRel.list (by omega) hB hl (λ h => by cases h) (λ i hi => ?_) ?_ (λ i j x y hi hx hy => ?_)
  ·rw [hg i hi]
   obtain ⟨cs, hcs⟩ := Classical.choose_spec (each i)
   exact ⟨e1 i hi, (hcs hi).2.2⟩
  ·obtain ⟨y, _, h1⟩ := at' (len - 1) (k - 1) (by omega) (by omega)
   have h2 := (Array.getElem?_eq_some_iff.1 h1).1
   have h3 : len * k = (len - 1) * k + k := by
    obtain ⟨m, rfl⟩ : ∃ m, len = m + 1 := ⟨len - 1, by omega⟩
    rw [Nat.add_sub_cancel, Nat.succ_mul]
   omega
  ·rw [hg i hi] at hx
   have hj : j < k := by
    have := (List.getElem?_eq_some_iff.1 hx).1
    have := e1 i hi
    omega
   obtain ⟨z, h1, h2⟩ := at' i j hi hj
   rw [h1] at hx; rw [h2] at hy
   cases hx; cases hy
   exact .v _
end
section
variable {X : Type} {enc : TypeId × Value -> X} {w : World} {base : Nat} {spare : Nat -> Bool} {held : Bool}
end
theorem Mf {g : FuncId} {xs : List AVal} (hg : FnT Try.prog g xs (AE []) (.bool true) []) {w : World} {vs : Array Value} (hl : vs.size = xs.length)
  (hx : ∀ (j : Nat) (a : AVal) (y : Value), xs[j]? = some a -> vs[j]? = some y -> ∃ d, a = .d d /\ DRel (WU w) d y) :
  Calls Try.prog g vs w λ e w' => e = .returned (.bool true) /\ Below w.heap.size w w' := by
 refine (hg.2 (WU w) (λ _ => ⟨0, 0⟩) w vs ⟨hl, λ j a y ha hy => ?_⟩ (Oh w _)).mono λ e w' ⟨v, H', he, _, B', ι', hm, hv⟩ => ?_
 ·obtain ⟨d, rfl, hd⟩ := hx j a y ha hy
  exact .d hd
 ·subst he
  cases hv with
  | d hd =>
   cases hd
   exact ⟨rfl, hm.calm.os, hm.calm.tape, hm.calm.output, hm.size, λ k hk => hm.frame k hk λ i o h => by simp [AE, DA] at h⟩
end Go.Bal

set_option maxRecDepth 100000
namespace Go.Bal
open Go Go.Sym Go.Proofs Go.ChangeShapes Go.WideShapes Go.RowKit
def RI (l : List Int) : Prop := ∀ i, i < l.length -> 0 <= gD l i /\ gD l i <= 255
section
variable {X : Type} {enc : TypeId × Value -> X} {w : World} {base : Nat} {spare : Nat -> Bool} {held : Bool}
abbrev Byt := { n : Int // 0 <= n /\ n <= 255 }
instance : Inhabited Byt := ⟨⟨0, by decide, by decide⟩⟩
theorem Mb : Pe X enc Try.prog w base spare held 5 1 (λ b : Byt => .v (.int .u8 b.val)) := by
 refine ⟨by kernel_rfl, λ fuel cs x h hl => ?_⟩
 obtain ⟨n, rfl, _, hw⟩ := DataW.trod_int Try.underlying5 h
 have hw : (decide (IntKind.u8.min <= n) && decide (n <= IntKind.u8.max)) = true := hw
 simp only [Bool.and_eq_true, decide_eq_true_eq] at hw
 have e1 : IntKind.u8.min = 0 := rfl
 have e2 : IntKind.u8.max = 255 := rfl
 exact ⟨⟨n, by omega, by omega⟩, rfl, rfl⟩
theorem VJ {v : Value} {d : DataW X} {ps : List MemPlace} {r : Go.Reach} {b0 : Nat} (hv : Value.okWide Try.prog w r b0 54 v) (h : DataW.Trod enc Try.prog w base spare held 54 v d ps) : ∃ l : List Int, RI l /\ DRel (WU w) (Ip l) v := by
 obtain ⟨a, len, cap, rfl⟩ := okWide_slice Try.underlying54 hv
 obtain ⟨fuel, hf⟩ := h
 obtain ⟨l, hl⟩ := Qu (by omega) Try.underlying54 Mb hf
 have hg : ∀ i, gD (l.map Subtype.val) i = (gD l i).val := λ i => by
  simp only [gD, List.getD_eq_getElem?_getD, List.getElem?_map]
  cases l[i]? <;> rfl
 refine ⟨l.map Subtype.val, λ i hi => by rw [hg]; exact (gD l i).2, ?_⟩
 unfold Ip
 rw [List.length_map]
 have e : (λ i => DVal.v (.int .u8 (gD (l.map Subtype.val) i))) = λ i => DVal.v (.int .u8 (gD l i).val) := by funext i; rw [hg]
 rw [e]; exact hl
end
end Go.Bal

namespace Go.Bal
open Go Go.Sym Go.Proofs
theorem RG {l : List Int} (h : RI l) : StmB 0 ⟨l, 0, 0⟩ := ⟨⟨Int.le_refl _, Int.le_refl _⟩, ⟨Int.le_refl _, (by decide : (0 : Int) < 251)⟩, h⟩
def mkA (l : List Int) (most : Int) : SN := ⟨⟨l, 0, 0⟩, most⟩
def mkN (l : List Int) (most : Int) : NetL := EH (mkA l most)
def mkT (l : List Int) (most : Int) : TruthL := FH (mkA l most)
theorem Yu {l : List Int} (h : RI l) {most : Int} (hm : 1 <= most /\ most <= 8) : Made (mkN l most) (mkT l most) most := (Qk (mkA l most) ((RG h).mono (by omega)) hm).1
variable {N : NetL} {T : TruthL}
end Go.Bal

namespace Go.Bal
open Go Go.Sym Go.Proofs
theorem YV : ∀ (l : List Reach) (s : Stm) (K : Int), StmB K s -> K + 10 * l.length <= 100000000000 -> ∀ i, i < l.length -> ((gD (FT s l).2 i).fr = (gD l i).fr /\ (gD (FT s l).2 i).to = (gD l i).to) /\ ((gD (FT s l).2 i).sp = (gD l i).sp ∨ (-50 <= (gD (FT s l).2 i).sp.lo /\ (gD (FT s l).2 i).sp.lo <= (gD (FT s l).2 i).sp.hi /\ (gD (FT s l).2 i).sp.hi <= 158))
 | [], _, _, _, _, i, hi => by simp at hi
 | r :: l, s, K, hs, hK, 0, _ => by
  rw [List.length_cons] at hK
  have a := hs.next (by omega) 4
  have b : StmB _ (Cb s) := a.next (by omega) (Br (-50) 150)
  have v1 : -50 <= XH s /\ XH s <= 150 := TW a (by omega) (by omega) (by omega) (by omega)
  have v2 := EQ b (by omega) 9
  have v3 := v2.2 (by omega)
  have e : wr (XH s + AS (Cb s) 9) = XH s + AS (Cb s) 9 := OT (by omega) (by omega)
  have e0 : gD (FT s (r :: l)).2 0 = (KO s r).2 := rfl
  have e1 : gD (r :: l) 0 = r := rfl
  rw [e0, e1]
  unfold KO
  split
  ·simp only [e]; exact ⟨⟨trivial, trivial⟩, .inr ⟨by omega, by omega, by omega⟩⟩
  ·exact ⟨⟨rfl, rfl⟩, .inl rfl⟩
 | r :: l, s, K, hs, hK, i + 1, hi => by
  rw [List.length_cons] at hK
  have := YV l (KO s r).1 (K + 3) (Ka hs (by omega) r) (by omega) i (by simpa using hi)
  exact this
variable {N : NetL} {T : TruthL} {most : Int}
structure Spoilt (M N : NetL) : Prop where
 good : Good N
 g : N.g = M.g
 len : N.r.length = M.r.length
 ends : ∀ i, i < M.r.length -> (gD N.r i).fr = (gD M.r i).fr /\ (gD N.r i).to = (gD M.r i).to
theorem Sy {s : Stm} {K : Int} (hs : StmB K s) (hK : K <= 1000000000) (hm : Made N T most) (h8 : most <= 8) : Spoilt N (EO ⟨s, N⟩) := by
 have hg := hm.good h8
 have hl : (EO ⟨s, N⟩).r.length = N.r.length := RE _ _
 have h11 := hm.r11
 have ea := YV N.r s K hs (by omega)
 refine ⟨⟨hg.g1, hg.g8, by omega, hg.g, λ i hi => ?_⟩, rfl, hl, λ i hi => (ea i hi).1⟩
 obtain ⟨⟨e1, e2⟩, e3⟩ := ea i (by omega)
 obtain ⟨a, b, c, d⟩ := hg.r i (by omega)
 have f1 : (gD (EO ⟨s, N⟩).r i).fr = (gD N.r i).fr := e1
 have f2 : (gD (EO ⟨s, N⟩).r i).to = (gD N.r i).to := e2
 rw [f1, f2]
 refine ⟨?_, b, c, d⟩
 rcases e3 with e | e
 ·have f3 : (gD (EO ⟨s, N⟩).r i).sp = (gD N.r i).sp := e
  rw [f3]; exact a
 ·have f3 : -50 <= (gD (EO ⟨s, N⟩).r i).sp.lo /\ (gD (EO ⟨s, N⟩).r i).sp.lo <= (gD (EO ⟨s, N⟩).r i).sp.hi /\ (gD (EO ⟨s, N⟩).r i).sp.hi <= 158 := e
  omega
structure BalT (N : NetL) (T : TruthL) (B : Int) : Prop where
 f : T.f.length = N.r.length
 t : T.t.length = N.g.length
 fb : ∀ i, i < T.f.length -> -B <= gD T.f i /\ gD T.f i <= B
 tb : ∀ i, i < T.t.length -> -B <= gD T.t i /\ gD T.t i <= B
 bal : ∀ s, s < N.g.length -> TR N T s = 0
theorem BalT.ask {B : Int} (h : BalT N T B) (hc : AD N = 0) (hB : B <= 100000000) : XO N T = 0 /\ XU N T = [] := by
 have hT : LJ T := ⟨λ i hi => by have := h.fb i hi; omega, λ i hi => by have := h.tb i hi; omega⟩
 exact ⟨UI hc h.f h.t hT, (JP (DD hc).w h.f h.t hT).2 h.bal⟩
end Go.Bal
