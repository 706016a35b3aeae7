/- A function's word, taken over into a caller's heap. -/
import Derived.Test.YtonddbmhljelgaaSym5
set_option linter.unusedVariables false
set_option linter.unusedSimpArgs false
namespace Go.Sym
variable {P : Program} {B B' : Imm} {ι ι' : Nat -> Pl} {H H' : Heap} {D : Nat -> Prop} {w w' : World}
mutual
def KR (ρ : Nat -> Nat) : AVal -> AVal
 | .d x => .d x
 | .agg cs => .agg (UH ρ cs)
 | .tup cs => .tup (UH ρ cs)
 | .bptr id c => .bptr (ρ id) c
 | .rptr id k i c => .rptr (ρ id) k i c
 | .own id k i n => .own (ρ id) k i n
 | .fn f a b => .fn f (UH ρ a) (UH ρ b)
 | .mref id => .mref (ρ id)
 | .any => .any
 | .opt g a => .opt g (KR ρ a)
def UH (ρ : Nat -> Nat) : List AVal -> List AVal
 | [] => []
 | a :: r => KR ρ a :: UH ρ r
end
mutual
def JF (p : Nat -> Bool) : AVal -> Bool
 | .d _ => true
 | .agg cs => Et p cs
 | .tup cs => Et p cs
 | .bptr id _ => p id
 | .rptr id _ _ _ => p id
 | .own id _ _ _ => p id
 | .fn _ a b => Et p a && Et p b
 | .mref id => p id
 | .any => true
 | .opt _ a => JF p a
def Et (p : Nat -> Bool) : List AVal -> Bool
 | [] => true
 | a :: r => JF p a && Et p r
end
theorem NC (ρ : Nat -> Nat) : ∀ (l : List AVal) (j : Nat), (UH ρ l)[j]? = (l[j]?).map (KR ρ)
 | [], j => by simp [UH]
 | a :: l, 0 => by simp [UH]
 | a :: l, j + 1 => by simp [UH, NC ρ l j]
theorem MR (ρ : Nat -> Nat) : ∀ l : List AVal, (UH ρ l).length = l.length
 | [] => rfl
 | a :: l => by simp [UH, MR ρ l]
theorem Jt {p : Nat -> Bool} : ∀ {l : List AVal} {j : Nat} {a : AVal}, Et p l = true -> l[j]? = some a -> JF p a = true
 | [], j, a, _, h => by simp at h
 | b :: l, 0, a, hok, h => by simp at h; subst h; simp only [Et, Bool.and_eq_true] at hok; exact hok.1
 | b :: l, j + 1, a, hok, h => by simp only [Et, Bool.and_eq_true] at hok; exact Jt hok.2 (by simpa using h)
mutual
theorem Jn {ρ : Nat -> Nat} {p : Nat -> Bool} {D' : Nat -> Prop} (hp : ∀ i, p i = true -> D (ρ i) /\ ι (ρ i) = ι' i) : ∀ (a : AVal) (y : Value), VRel B ι' D' a y -> JF p a = true -> VRel B ι D (KR ρ a) y
 | .d x, y, h, _ => by simp only [KR]; exact .d h.d_inv
 | .agg cs, y, h, ok => by
  simp only [KR]; simp only [JF] at ok
  cases h with
  | agg hl hr =>
   exact .agg (by rw [hl, MR]) λ j x y hx hy => by
    rw [NC, Option.map_eq_some_iff] at hx
    obtain ⟨x', hx', rfl⟩ := hx
    exact QU hp cs ok j x' y hx' (hr j x' y hx' hy)
 | .tup cs, y, h, ok => by
  simp only [KR]; simp only [JF] at ok
  cases h with
  | tup hl hr =>
   exact .tup (by rw [hl, MR]) λ j x y hx hy => by
    rw [NC, Option.map_eq_some_iff] at hx
    obtain ⟨x', hx', rfl⟩ := hx
    exact QU hp cs ok j x' y hx' (hr j x' y hx' hy)
 | .bptr id c, y, h, ok => by simp only [KR]; cases h; rw [<- (hp id (by simpa [JF] using ok)).2]; exact .bptr (hp id (by simpa [JF] using ok)).1
 | .rptr id k i c, y, h, ok => by simp only [KR]; cases h; rw [<- (hp id (by simpa [JF] using ok)).2]; exact .rptr (hp id (by simpa [JF] using ok)).1
 | .own id k i n, y, h, ok => by
  simp only [KR]
  cases h with
  | own h1 h2 h3 => rw [<- (hp id (by simpa [JF] using ok)).2] at h3 ⊢; exact .own (hp id (by simpa [JF] using ok)).1 h2 h3
 | .fn f u v, y, h, ok => by
  simp only [KR]; simp only [JF, Bool.and_eq_true] at ok
  cases h with
  | fn h1 h2 h3 h4 =>
   exact .fn (by rw [h1, MR]) (by rw [h2, MR])
    (λ j x y hx hy => by
     rw [NC, Option.map_eq_some_iff] at hx
     obtain ⟨x', hx', rfl⟩ := hx
     exact QU hp u ok.1 j x' y hx' (h3 j x' y hx' hy))
    λ j x y hx hy => by
     rw [NC, Option.map_eq_some_iff] at hx
     obtain ⟨x', hx', rfl⟩ := hx
     exact QU hp v ok.2 j x' y hx' (h4 j x' y hx' hy)
 | .mref id, y, h, ok => by simp only [KR]; cases h; rw [<- (hp id (by simpa [JF] using ok)).2]; exact .mref (hp id (by simpa [JF] using ok)).1
 | .any, y, _, _ => by simp only [KR]; exact .any
 | .opt g a, y, h, ok => by
  simp only [KR]; simp only [JF] at ok
  cases h with
  | opt h1 h2 => exact .opt (λ hg => Jn hp a y (h1 hg) ok) h2
theorem QU {ρ : Nat -> Nat} {p : Nat -> Bool} {D' : Nat -> Prop} (hp : ∀ i, p i = true -> D (ρ i) /\ ι (ρ i) = ι' i) : ∀ (l : List AVal), Et p l = true -> ∀ (j : Nat) (x : AVal) (y : Value), l[j]? = some x -> VRel B ι' D' x y -> VRel B ι D (KR ρ x) y
 | [], _, j, x, y, hx, _ => by simp at hx
 | a :: l, ok, 0, x, y, hx, h => by
  simp at hx; subst hx; simp only [Et, Bool.and_eq_true] at ok
  exact Jn hp a y h ok.1
 | a :: l, ok, j + 1, x, y, hx, h => by
  simp only [Et, Bool.and_eq_true] at ok
  exact QU hp l ok.2 j x y (by simpa using hx) h
end
def ZK (ρ : Nat -> Nat) : AObj -> AObj
 | .box es => .box (UH ρ es)
 | o => o
def Xj (p : Nat -> Bool) : AObj -> Bool
 | .box es => Et p es
 | _ => true
theorem Qw {ρ : Nat -> Nat} {p : Nat -> Bool} {D' : Nat -> Prop} (hp : ∀ i, p i = true -> D (ρ i) /\ ι (ρ i) = ι' i) {q : Nat} {o : AObj} {x : Option Obj} (h : ORel B ι' D' q o x) (ok : Xj p o = true) : ORel B ι D q (ZK ρ o) x := by
 cases o with
 | box es =>
  simp only [ZK]
  cases h with
  | box hsz hr =>
   exact .box (by rw [hsz, MR]) λ j a y ha hy => by
    rw [NC, Option.map_eq_some_iff] at ha
    obtain ⟨x', hx', rfl⟩ := ha
    exact QU hp es ok j x' y hx' (hr j x' y hx' hy)
 | row k n get => simp only [ZK]; cases h with | row a b c d => exact .row a b c d
 | imap k z has get st pend => simp only [ZK]; cases h with | imap a => exact .imap a
end Go.Sym

namespace Go.Sym
variable {P : Program} {B B' : Imm} {ι ι' : Nat -> Pl} {H H' : Heap} {D : Nat -> Prop} {w w' : World}
def DA : List (Nat × AObj) -> Nat -> Option AObj
 | [], _ => none
 | (j, o) :: r, i => if i = j then some o else DA r i
def AE (L : List (Nat × AObj)) : Heap := λ i => match DA L i with
 | some o => .live o
 | none => .none
def GQ : List (Nat × HCell) -> Nat -> Option HCell
 | [], _ => none
 | (j, c) :: r, i => if i = j then some c else GQ r i
def Bn (ρ : Nat -> Nat) : HCell -> HCell
 | .live o => .live (ZK ρ o)
 | c => c
def IQ (ρ : Nat -> Nat) : List (Nat × HCell) -> List (Nat × HCell)
 | [] => []
 | (i, c) :: r => (ρ i, Bn ρ c) :: IQ ρ r
def cellsOf (ρ : Nat -> Nat) : List (Nat × AObj) -> List (Nat × HCell)
 | [] => []
 | (i, o) :: r => (ρ i, .live (ZK ρ o)) :: cellsOf ρ r
def nodup : List Nat -> Bool
 | [] => true
 | a :: r => !r.contains a && nodup r
def UC : HCell -> Bool
 | .none => false
 | _ => true
def JC (p : Nat -> Bool) : HCell -> Bool
 | .live o => Xj p o
 | _ => true
def XJ (as : List AVal) (L : List (Nat × AObj)) (val : AVal) (keep : List (Nat × HCell)) (ρ : Nat -> Nat) (r : Nat) : Bool :=
 Et (λ i => (DA L i).isSome) as && L.all (λ x => Xj (λ i => (DA L i).isSome) x.2) && L.all (λ x => (GQ keep x.1).isSome && !(Nat.ble r (ρ x.1) && Nat.blt (ρ x.1) (r + 16))) &&
 keep.all (λ x => UC x.2 && JC (λ i => (GQ keep i).isSome) x.2 && ((DA L x.1).isSome || (Nat.ble r (ρ x.1) && Nat.blt (ρ x.1) (r + 16)))) &&
 JF (λ i => (GQ keep i).isSome) val && nodup (keep.map λ x => ρ x.1)
theorem FQ : ∀ {l : List (Nat × HCell)} {i : Nat} {c : HCell}, GQ l i = some c -> (i, c) ∈ l
 | [], i, c, h => by simp [GQ] at h
 | (j, d) :: r, i, c, h => by
  simp only [GQ] at h
  split at h
  ·rename_i e; cases h; subst e; simp
  ·exact List.mem_cons_of_mem _ (FQ h)
theorem KU : ∀ {l : List (Nat × AObj)} {i : Nat} {o : AObj}, DA l i = some o -> (i, o) ∈ l
 | [], i, c, h => by simp [DA] at h
 | (j, d) :: r, i, c, h => by
  simp only [DA] at h
  split at h
  ·rename_i e; cases h; subst e; simp
  ·exact List.mem_cons_of_mem _ (KU h)
theorem ZW : ∀ {l : List (Nat × HCell)} {i : Nat} {c : HCell}, (i, c) ∈ l -> ∃ c', GQ l i = some c'
 | (j, d) :: r, i, c, h => by
  simp only [GQ]
  split
  ·exact ⟨_, rfl⟩
  ·rename_i hne
   rcases List.mem_cons.1 h with h | h
   ·cases h; exact absurd rfl hne
   ·exact ZW h
theorem FJ : ∀ {l : List Nat}, nodup l = true -> l.Nodup
 | [], _ => List.nodup_nil
 | a :: r, h => by
  simp only [nodup, Bool.and_eq_true, Bool.not_eq_true'] at h
  refine List.nodup_cons.2 ⟨λ hm => ?_, FJ h.2⟩
  have := h.1
  simp [hm] at this
theorem TE {ρ : Nat -> Nat} {keep : List (Nat × HCell)} (hn : (keep.map λ x => ρ x.1).Nodup) {i j : Nat} {c d : HCell} (hi : (i, c) ∈ keep) (hj : (j, d) ∈ keep) (h : ρ i = ρ j) : i = j /\ c = d := by
 induction keep with
 | nil => cases hi
 | cons x r ih =>
  simp only [List.map_cons, List.nodup_cons] at hn
  rcases List.mem_cons.1 hi with e1 | hi <;> rcases List.mem_cons.1 hj with e2 | hj
  ·rw [<- e1] at e2; cases e2; exact ⟨rfl, rfl⟩
  ·rw [<- e1] at hn; exact absurd (List.mem_map.2 ⟨_, hj, h.symm⟩) hn.1
  ·rw [<- e2] at hn; exact absurd (List.mem_map.2 ⟨_, hi, h⟩) hn.1
  ·exact ih hn.2 hi hj
theorem WS : ∀ {keep : List (Nat × HCell)} {H : Heap}, OL H keep -> ∀ {i : Nat} {c : HCell}, (i, c) ∈ keep -> H i = c
 | [], _, _, i, c, h => by cases h
 | (j, d) :: r, H, h, i, c, hm => by
  rcases List.mem_cons.1 hm with hm | hm
  ·cases hm; exact h.1
  ·exact WS h.2 hm
theorem JZ {ρ : Nat -> Nat} : ∀ {keep : List (Nat × HCell)} (H : Heap), (keep.map λ x => ρ x.1).Nodup -> ∀ {i : Nat} {c : HCell}, (i, c) ∈ keep -> CF H (IQ ρ keep) (ρ i) = Bn ρ c
 | [], _, _, i, c, h => by cases h
 | (j, d) :: r, H, hn, i, c, h => by
  simp only [List.map_cons, List.nodup_cons] at hn
  simp only [IQ, CF]
  rcases List.mem_cons.1 h with h | h
  ·cases h
   rw [HO]
   ·exact CZ _ _ _
   ·intro hm
    have : ∀ l : List (Nat × HCell), (IQ ρ l).map (·.1) = l.map λ x => ρ x.1 := λ l => by
     induction l with
     | nil => rfl
     | cons x l ih => simp [IQ, ih]
    rw [this] at hm
    exact hn.1 hm
  ·exact JZ _ hn.2 h
theorem Ba (ρ : Nat -> Nat) (l : List (Nat × HCell)) : (IQ ρ l).map (·.1) = l.map λ x => ρ x.1 := by
 induction l with
 | nil => rfl
 | cons x l ih => simp [IQ, ih]
open Classical in
theorem Fp {as : List AVal} {L : List (Nat × AObj)} {val : AVal} {keep : List (Nat × HCell)} (ρ : Nat -> Nat) (r : Nat) (ok : XJ as L val keep ρ r = true) (H : Heap) (hfresh : ∀ i, r <= i -> i < r + 16 -> H i = .none)
  (hH : HRel B ι H w) (hobj : ∀ i o, DA L i = some o -> (∃ o', H (ρ i) = .live o') /\ ORel B (λ i => ι (ρ i)) (AE L).dom (ι (ρ i)).cap o (w.heap[(ι (ρ i)).b]?)) :
  HRel B (λ i => ι (ρ i)) (AE L) w /\ ∀ v w', (∃ H', OL H' keep /\ GV B (λ i => ι (ρ i)) (AE L) w H' val v w') -> GV B ι H w (CF H (IQ ρ keep)) (KR ρ val) v w' := by
 simp only [XJ, Bool.and_eq_true, List.all_eq_true] at ok
 obtain ⟨⟨⟨⟨⟨ok1, ok2⟩, ok3⟩, ok4⟩, ok5⟩, ok6⟩ := ok
 have hnd := FJ ok6
 have hcells : ∀ i o, DA L i = some o -> ∃ o', H (ρ i) = .live o' /\ True := λ i o hi => (hobj i o hi).1.imp λ _ h => ⟨h, trivial⟩
 have hLo : ∀ i o, AE L i = .live o ↔ DA L i = some o := λ i o => by
  unfold AE; cases hg : DA L i <;> simp
 have hdom : ∀ i, (DA L i).isSome = true -> (AE L).dom i := λ i hi => by
  unfold Heap.dom AE
  obtain ⟨o, ho⟩ := Option.isSome_iff_exists.1 hi
  rw [ho]; simp
 have LK : ∀ i o, DA L i = some o -> ∃ c, (i, c) ∈ keep /\ ¬ (r <= ρ i /\ ρ i < r + 16) := λ i o hi => by
  have := ok3 (i, o) (KU hi)
  simp only [Bool.not_eq_true', Bool.and_eq_false_iff] at this
  obtain ⟨h1, h2⟩ := this
  obtain ⟨c, hc⟩ := Option.isSome_iff_exists.1 h1
  refine ⟨c, FQ hc, λ h3 => ?_⟩
  rcases h2 with h2 | h2
  ·have : Nat.ble r (ρ i) = true := by simpa using h3.1
   rw [this] at h2; cases h2
  ·have : Nat.blt (ρ i) (r + 16) = true := by simpa using h3.2
   rw [this] at h2; cases h2
 have Kspec : ∀ i c, (i, c) ∈ keep -> UC c = true /\ JC (λ i => (GQ keep i).isSome) c = true /\ ((∃ o, DA L i = some o) ∨ (r <= ρ i /\ ρ i < r + 16)) := λ i c hi => by
  have := ok4 (i, c) hi
  simp only [Bool.and_eq_true, Bool.or_eq_true, Nat.ble_eq, Nat.blt_eq] at this
  exact ⟨this.1.1, this.1.2, this.2.imp (λ h => Option.isSome_iff_exists.1 h) id⟩
 -- the callee's side
 have hH' : HRel B (λ i => ι (ρ i)) (AE L) w := by
  refine ⟨λ i o hi => ?_, λ i j o o' hi hj hij => ?_, λ i o hi => ?_, hH.imm⟩
  ·have hg := (hLo i o).1 hi
   exact (hobj i o hg).2
  ·have h1 := (hLo i o).1 hi
   have h2 := (hLo j o').1 hj
   obtain ⟨c1, k1, _⟩ := LK i o h1
   obtain ⟨c2, k2, _⟩ := LK j o' h2
   exact (TE hnd k1 k2 (hH.inj _ _ _ _ (hcells i o h1).choose_spec.1 (hcells j o' h2).choose_spec.1 hij)).1
  ·exact hH.sep _ _ (hcells i o ((hLo i o).1 hi)).choose_spec.1
 refine ⟨hH', ?_⟩
 rintro v w' ⟨H', hk, B', ι', hm, hv⟩
 -- the caller's
 let ι2 : Nat -> Pl := λ j => if hj : ∃ i c, (i, c) ∈ keep /\ DA L i = none /\ ρ i = j then ι' (Classical.choose hj) else ι j
 have Hfresh : ∀ i c, (i, c) ∈ keep -> DA L i = none -> H (ρ i) = .none := λ i c hi hn => by
  rcases (Kspec i c hi).2.2 with ⟨o, ho⟩ | hr
  ·rw [ho] at hn; cases hn
  ·exact hfresh _ hr.1 hr.2
 have ι2_old : ∀ j, H.dom j -> ι2 j = ι j := λ j hj => by
  show (if hj : _ then _ else _) = _
  rw [dif_neg]
  rintro ⟨i, c, h1, h2, rfl⟩
  exact hj (Hfresh i c h1 h2)
 have ι2_new : ∀ i c, (i, c) ∈ keep -> DA L i = none -> ι2 (ρ i) = ι' i := λ i c h1 h2 => by
  have hex : ∃ i' c', (i', c') ∈ keep /\ DA L i' = none /\ ρ i' = ρ i := ⟨i, c, h1, h2, rfl⟩
  show (if hj : _ then _ else _) = _
  rw [dif_pos hex]
  obtain ⟨c', h3, _, h5⟩ := Classical.choose_spec hex
  rw [(TE hnd h3 h1 h5).1]
 have key : ∀ i c, (i, c) ∈ keep -> ι2 (ρ i) = ι' i := λ i c hi => by
  cases hg : DA L i with
  | none => exact ι2_new i c hi hg
  | some o =>
   obtain ⟨_, hl, _⟩ := hcells i o hg
   rw [ι2_old _ (by unfold Heap.dom; rw [hl]; simp)]
   exact ((hm.im i (hdom i (by simp [hg]))).2).symm
 have inK : ∀ i c, (i, c) ∈ keep -> CF H (IQ ρ keep) (ρ i) = Bn ρ c := λ i c hi => JZ H hnd hi
 have notK : ∀ j, (∀ i c, (i, c) ∈ keep -> ρ i ≠ j) -> CF H (IQ ρ keep) j = H j := λ j hj => HO _ _ _ (by
  rw [Ba]
  intro hmem
  obtain ⟨⟨i, c⟩, h1, h2⟩ := List.mem_map.1 hmem
  exact hj i c h1 h2)
 have domK : ∀ i c, (i, c) ∈ keep -> (CF H (IQ ρ keep)).dom (ρ i) := λ i c hi => by
  unfold Heap.dom; rw [inK i c hi]
  have := (Kspec i c hi).1
  cases c <;> simp [Bn, UC] at this ⊢
 have up : ∀ i, (GQ keep i).isSome = true -> (CF H (IQ ρ keep)).dom (ρ i) /\ ι2 (ρ i) = ι' i := λ i hi => by
  obtain ⟨c, hc⟩ := Option.isSome_iff_exists.1 hi
  exact ⟨domK i c (FQ hc), key i c (FQ hc)⟩
 have cases' : ∀ j, (∃ i c, (i, c) ∈ keep /\ ρ i = j) ∨ (∀ i c, (i, c) ∈ keep -> ρ i ≠ j) := λ j => by
  by_cases hj : ∃ i c, (i, c) ∈ keep /\ ρ i = j
  ·exact .inl hj
  ·exact .inr λ i c h1 h2 => hj ⟨i, c, h1, h2⟩
 have im : ∀ j, H.dom j -> (CF H (IQ ρ keep)).dom j /\ ι2 j = ι j := λ j hj => ⟨by
  rcases cases' j with ⟨i, c, h1, rfl⟩ | hn
  ·exact domK i c h1
  ·unfold Heap.dom; rw [notK j hn]; exact hj, ι2_old j hj⟩
 have apart : ∀ j o, H j = .live o -> (∀ i c, (i, c) ∈ keep -> ρ i ≠ j) -> ∀ i o', AE L i = .live o' -> (ι (ρ i)).b ≠ (ι j).b := λ j o hj hn i o' hi he => by
  have hg := (hLo i o').1 hi
  obtain ⟨c, hc, _⟩ := LK i o' hg
  exact hn i c hc (hH.inj _ _ _ _ (hcells i o' hg).choose_spec.1 hj he)
 have liveK : ∀ i c o, (i, c) ∈ keep -> CF H (IQ ρ keep) (ρ i) = .live o -> ∃ o', c = .live o' /\ o = ZK ρ o' /\ H' i = .live o' := λ i c o hi hl => by
  rw [inK i c hi] at hl
  cases c with
  | live o' => simp only [Bn, HCell.live.injEq] at hl; exact ⟨o', rfl, hl.symm, WS hk hi⟩
  | none => cases hl
  | dead => cases hl
 refine ⟨B', ι2, ⟨hm.bm, ?_, im, ⟨?_, ?_, ?_, hm.heap.imm⟩, ?_, ?_, hm.size, hm.calm⟩, ?_⟩
 ·intro b c hb
  rcases hm.bn b c hb with h1 | h1 | ⟨i, o, h1, h2⟩
  ·exact .inl h1
  ·exact .inr (.inl h1)
  ·exact .inr (.inr ⟨ρ i, _, (hcells i o ((hLo i o).1 h1)).choose_spec.1, h2⟩)
 ·intro j o hj
  rcases cases' j with ⟨i, c, h1, rfl⟩ | hn
  ·obtain ⟨o', rfl, rfl, hl⟩ := liveK i c o h1 hj
   rw [key i _ h1]
   exact Qw up (hm.heap.obj i o' hl) (Kspec i _ h1).2.1
  ·rw [notK j hn] at hj
   have hd : H.dom j := by unfold Heap.dom; rw [hj]; simp
   rw [ι2_old j hd, hm.frame _ (HV hH hj) (apart j o hj hn)]
   exact (hH.obj j o hj).mono hm.bm im
 ·intro i j o1 o2 hi hj hij
  have Kq : ∀ a c j o o', (a, c) ∈ keep -> CF H (IQ ρ keep) (ρ a) = .live o -> (∀ i c, (i, c) ∈ keep -> ρ i ≠ j) -> H j = .live o' -> (ι2 (ρ a)).b ≠ (ι2 j).b := λ a c j o o' h1 h2 hn hj he => by
   obtain ⟨o3, rfl, rfl, hl⟩ := liveK a c o h1 h2
   have hd : H.dom j := by unfold Heap.dom; rw [hj]; simp
   rw [key a _ h1, ι2_old j hd] at he
   rcases hm.own a o3 hl with ⟨i0, o0, h3, h4⟩ | h3
   ·exact apart j o' hj hn i0 o0 h3 (h4.trans he)
   ·have := HV hH hj
    omega
  rcases cases' i with ⟨a, c, h1, rfl⟩ | hn1 <;> rcases cases' j with ⟨b, d, h2, rfl⟩ | hn2
  ·obtain ⟨o3, rfl, rfl, hl1⟩ := liveK a c o1 h1 hi
   obtain ⟨o4, rfl, rfl, hl2⟩ := liveK b d o2 h2 hj
   rw [key a _ h1, key b _ h2] at hij
   rw [hm.heap.inj a b _ _ hl1 hl2 hij]
  ·rw [notK j hn2] at hj
   exact absurd hij (Kq a c j o1 o2 h1 hi hn2 hj)
  ·rw [notK i hn1] at hi
   exact absurd hij.symm (Kq b d i o2 o1 h2 hj hn1 hi)
  ·rw [notK i hn1] at hi; rw [notK j hn2] at hj
   have hd1 : H.dom i := by unfold Heap.dom; rw [hi]; simp
   have hd2 : H.dom j := by unfold Heap.dom; rw [hj]; simp
   rw [ι2_old i hd1, ι2_old j hd2] at hij
   exact hH.inj i j _ _ hi hj hij
 ·intro j o hj
  rcases cases' j with ⟨i, c, h1, rfl⟩ | hn
  ·obtain ⟨o', rfl, rfl, hl⟩ := liveK i c o h1 hj
   rw [key i _ h1]; exact hm.heap.sep i o' hl
  ·rw [notK j hn] at hj
   have hd : H.dom j := by unfold Heap.dom; rw [hj]; simp
   rw [ι2_old j hd]
   cases hb : B' (ι j).b with
   | none => rfl
   | some x =>
    exfalso
    rcases hm.bn _ _ hb with h1 | h1 | ⟨i, o', h1, h2⟩
    ·rw [hH.sep j o hj] at h1; cases h1
    ·have := HV hH hj; omega
    ·exact apart j o hj hn i o' h1 h2
 ·intro j o hj
  rcases cases' j with ⟨i, c, h1, rfl⟩ | hn
  ·obtain ⟨o', rfl, rfl, hl⟩ := liveK i c o h1 hj
   rw [key i _ h1]
   rcases hm.own i o' hl with ⟨i0, o0, h3, h4⟩ | h3
   ·exact .inl ⟨ρ i0, _, (hcells i0 o0 ((hLo i0 o0).1 h3)).choose_spec.1, h4⟩
   ·exact .inr h3
  ·rw [notK j hn] at hj
   have hd : H.dom j := by unfold Heap.dom; rw [hj]; simp
   exact .inl ⟨j, o, hj, by rw [ι2_old j hd]⟩
 ·intro b hb hno
  exact hm.frame b hb λ i o hi => hno (ρ i) _ (hcells i o ((hLo i o).1 hi)).choose_spec.1
 ·exact Jn up val v hv ok5
theorem FnT.at {g : FuncId} {as : List AVal} {L : List (Nat × AObj)} {val : AVal} {keep : List (Nat × HCell)} (h : FnT P g as (AE L) val keep) (ρ : Nat -> Nat) (r : Nat) (ok : XJ as L val keep ρ r = true) (H : Heap) (hfresh : ∀ i, r <= i -> i < r + 16 -> H i = .none)
  {vs : Array Value} (hH : HRel B ι H w) (ha' : KA B (λ i => ι (ρ i)) (AE L).dom as vs) (hobj : ∀ i o, DA L i = some o -> (∃ o', H (ρ i) = .live o') /\ ORel B (λ i => ι (ρ i)) (AE L).dom (ι (ρ i)).cap o (w.heap[(ι (ρ i)).b]?)) :
  Calls P g vs w λ e w' => ∃ v, e = .returned v /\ GV B ι H w (CF H (IQ ρ keep)) (KR ρ val) v w' := by
 obtain ⟨hH', fr⟩ := Fp ρ r ok H hfresh hH hobj
 refine Calls.mono (h.2 B _ w vs ha' hH') ?_
 rintro e w' ⟨v, H', rfl, hk, hd⟩
 exact ⟨v, rfl, fr v w' ⟨H', hk, hd⟩⟩
end Go.Sym

namespace Go.Sym
variable {P : Program} {B B' : Imm} {ι ι' : Nat -> Pl} {H H' : Heap} {D : Nat -> Prop} {w w' : World}
mutual
def CO : DVal -> DVal -> Prop
 | .v x, .v y => Rs x y
 | .agg xs, .agg ys => HD xs ys
 | .tup xs, .tup ys => HD xs ys
 | .list k n g e, .list k' n' g' e' => (k = k' ∨ n = 0) /\ n = n' /\ (e = true -> e' = true) /\ ∀ i, i < n -> CO (g i) (g' i)
 | .arr k n g, .arr k' n' g' => k = k' /\ n = n' /\ ∀ i, i < n -> CO (g i) (g' i)
 | .eref x c, .eref y d => c = d /\ CO x y
 | _, _ => False
def HD : List DVal -> List DVal -> Prop
 | [], [] => True
 | x :: xs, y :: ys => CO x y /\ HD xs ys
 | _, _ => False
def Rs : Value -> Value -> Prop
 | .int k a, .int k' b => k = k' /\ a = b
 | .bool a, .bool b => a = b
 | .string a, .string b => a = b
 | x, y => x = y
end
theorem Nb {x y : Value} (h : Rs x y) : x = y := by
 unfold Rs at h
 split at h
 ·obtain ⟨rfl, rfl⟩ := h; rfl
 ·rw [h]
 ·rw [h]
 ·exact h
theorem MT : ∀ {xs ys : List DVal}, HD xs ys -> xs.length = ys.length
 | [], [], _ => rfl
 | x :: xs, y :: ys, h => by simp only [HD] at h; simp [MT h.2]
 | [], _ :: _, h => by simp [HD] at h
 | _ :: _, [], h => by simp [HD] at h
theorem VV : ∀ {xs ys : List DVal}, HD xs ys -> ∀ {j : Nat} {x : DVal}, xs[j]? = some x -> ∃ y, ys[j]? = some y /\ CO x y
 | [], [], _, j, x, hx => by simp at hx
 | a :: xs, b :: ys, h, 0, x, hx => by simp only [HD] at h; simp at hx; subst hx; exact ⟨b, rfl, h.1⟩
 | a :: xs, b :: ys, h, j + 1, x, hx => by
  simp only [HD] at h
  obtain ⟨y, hy, hs⟩ := VV h.2 (j := j) (by simpa using hx)
  exact ⟨y, by simpa using hy, hs⟩
 | [], _ :: _, h, _, _, _ => by simp [HD] at h
 | _ :: _, [], h, _, _, _ => by simp [HD] at h
theorem WO : ∀ {x y : DVal}, CO x y -> HD x.cells1 y.cells1
 | .v x, y, h => by cases y <;> simp only [CO] at h; exact ⟨by simpa [CO] using h, trivial⟩
 | .agg xs, y, h => by cases y <;> simp only [CO] at h; exact h
 | .tup xs, y, h => by cases y <;> (try simp only [CO] at h) <;> exact ⟨by simpa only [CO] using h, trivial⟩
 | .list k n g e, y, h => by cases y <;> (try simp only [CO] at h) <;> exact ⟨by simpa only [CO] using h, trivial⟩
 | .arr k n g, y, h => by cases y <;> (try simp only [CO] at h) <;> exact ⟨by simpa only [CO] using h, trivial⟩
 | .eref a c, y, h => by cases y <;> (try simp only [CO] at h) <;> exact ⟨by simpa only [CO] using h, trivial⟩
theorem XE (x : DVal) (r : List DVal) : BO (x :: r) = (BO [x] && BO r) := by
 cases x with
 | v y => cases y <;> simp [BO]
 | _ => simp [BO]
theorem Mu {x y : DVal} (h : CO x y) : BO [x] = BO [y] := by
 cases x <;> cases y <;> simp only [CO] at h <;> try rfl
 rw [Nb h]
theorem Cd : ∀ {xs ys : List DVal}, HD xs ys -> BO xs = BO ys
 | [], [], _ => rfl
 | x :: xs, y :: ys, h => by simp only [HD] at h; rw [XE, XE y, Mu h.1, Cd h.2]
 | [], _ :: _, h => by simp [HD] at h
 | _ :: _, [], h => by simp [HD] at h
theorem US {k : Nat} {x y : DVal} (h : CO x y) (hy : EOk k y) : EOk k x := by
 have := WO h
 exact ⟨by rw [MT this]; exact hy.len, by rw [Cd this]; exact hy.one⟩
theorem Jx {e : DVal} {zs : Array Value} (hl : zs.size = e.cells1.length) (h : ∀ (j : Nat) (x : DVal) (z : Value), e.cells1[j]? = some x -> zs[j]? = some z -> DRel B x z) :
  ∃ v, DRel B e v /\ ∀ e2, CO e2 e -> DRel B e2 v -> ∀ (j : Nat) (x : DVal) (z : Value), e2.cells1[j]? = some x -> zs[j]? = some z -> DRel B x z := by
 have other : e.cells1 = [e] -> (∀ e2, CO e2 e -> e2.cells1 = [e2]) -> ∃ v, DRel B e v /\ ∀ e2, CO e2 e -> DRel B e2 v -> ∀ (j : Nat) (x : DVal) (z : Value), e2.cells1[j]? = some x -> zs[j]? = some z -> DRel B x z := by
  intro h1 h2
  rw [h1] at hl h
  have hz : 0 < zs.size := by rw [hl]; simp
  refine ⟨zs[0], h 0 e zs[0] rfl (by simp [hz]), λ e2 hs hv j x z hx hz' => ?_⟩
  rw [h2 e2 hs] at hx
  cases j with
  | zero => simp at hx; subst hx; simp [hz] at hz'; subst hz'; exact hv
  | succ j => simp at hx
 cases e with
 | agg ds =>
  refine ⟨.agg zs, .agg hl h, λ e2 hs hv j x z hx hz => ?_⟩
  cases e2 <;> simp only [CO] at hs
  cases hv with
  | agg hl hr => exact hr j x z hx hz
 | v y => exact other rfl λ e2 hs => by cases e2 <;> first | rfl | simp only [CO] at hs
 | tup y => exact other rfl λ e2 hs => by cases e2 <;> first | rfl | simp only [CO] at hs
 | list a b c d => exact other rfl λ e2 hs => by cases e2 <;> first | rfl | simp only [CO] at hs
 | eref a b => exact other rfl λ e2 hs => by cases e2 <;> first | rfl | simp only [CO] at hs
 | arr a b c => exact other rfl λ e2 hs => by cases e2 <;> first | rfl | simp only [CO] at hs
theorem VE {a b : DVal} {c : Array Value} {o k : Nat} (hs : CO a b) (ok : EOk k b) (hsz : o + k <= c.size) (h : ∀ (j : Nat) (x : DVal) (y : Value), b.cells1[j]? = some x -> c[o + j]? = some y -> DRel B x y)
  (down : ∀ v, DRel B b v -> DRel B a v) : ∀ (j : Nat) (x : DVal) (y : Value), a.cells1[j]? = some x -> c[o + j]? = some y -> DRel B x y := by
 have hz : ∀ j, j < k -> (c.extract o (o + k))[j]? = c[o + j]? := λ j hj => by rw [Array.getElem?_extract]; simp; omega
 obtain ⟨v, h1, h2⟩ := Jx (B := B) (e := b) (zs := c.extract o (o + k)) (by rw [ok.len]; simp; omega) (λ j x z hx hz' => by
  have hlt := (List.getElem?_eq_some_iff.1 hx).1
  rw [ok.len] at hlt
  rw [hz j hlt] at hz'
  exact h j x z hx hz')
 intro j x y hx hy
 have hlt := (List.getElem?_eq_some_iff.1 hx).1
 rw [(US hs ok).len] at hlt
 exact h2 a hs (down v h1) j x y hx (by rw [hz j hlt]; exact hy)
mutual
theorem CM : ∀ (x : DVal) (y : DVal) (v : Value), CO x y -> DRel B y v -> DRel B x v
 | .v x, y, v, h, hv => by cases y <;> simp only [CO] at h; rw [Nb h]; exact hv
 | .agg xs, y, v, h, hv => by
  cases y <;> simp only [CO] at h
  cases hv with
  | agg hl hr =>
   exact .agg (by rw [hl, MT h]) λ j x z hx hz => by
    obtain ⟨y, hy, hs⟩ := VV h hx
    exact PO xs j x y z hx hs (hr j y z hy hz)
 | .tup xs, y, v, h, hv => by
  cases y <;> simp only [CO] at h
  cases hv with
  | tup hl hr =>
   exact .tup (by rw [hl, MT h]) λ j x z hx hz => by
    obtain ⟨y, hy, hs⟩ := VV h hx
    exact PO xs j x y z hx hs (hr j y z hy hz)
 | .list k n g e, y, v, h, hv => by
  cases y <;> simp only [CO] at h
  obtain ⟨hkk, rfl, he, hg⟩ := h
  cases hv with
  | nil h1 h2 => exact .nil (λ h => h1 (he h)) h2
  | list hn hb hcap hex hk hsz hr =>
   rcases hkk with rfl | h0
   case inr => omega
   refine .list hn hb hcap (λ h => hex (he h)) (λ i hi => US (hg i hi) (hk i hi)) hsz λ i j x y hi hx hy => ?_
   have h1 : (i + 1) * k <= n * k := Nat.mul_le_mul_right k hi
   have h2 : (i + 1) * k = i * k + k := Nat.succ_mul i k
   exact VE (hg i hi) (hk i hi) (by omega) (λ j x y hx hy => hr i j x y hi hx hy) (λ v hv => CM (g i) _ v (hg i hi) hv) j x y hx hy
 | .arr k n g, y, v, h, hv => by
  cases y <;> simp only [CO] at h
  obtain ⟨rfl, rfl, hg⟩ := h
  cases hv with
  | arr hl hk hr =>
   refine .arr hl (λ i hi => US (hg i hi) (hk i hi)) λ i j x y hi hx hy => ?_
   have h1 : (i + 1) * k <= n * k := Nat.mul_le_mul_right k hi
   have h2 : (i + 1) * k = i * k + k := Nat.succ_mul i k
   exact VE (hg i hi) (hk i hi) (by omega) (λ j x y hx hy => hr i j x y hi hx hy) (λ v hv => CM (g i) _ v (hg i hi) hv) j x y hx hy
 | .eref a c, y, v, h, hv => by
  cases y <;> simp only [CO] at h
  obtain ⟨rfl, hs⟩ := h
  cases hv with
  | eref hb hsz hr =>
   have hl := MT (WO hs)
   rename_i d b off cs
   refine .eref hb (by omega) λ j x y hx hy => ?_
   have hz : ∀ j, j < d.cells1.length -> (cs.extract off (off + d.cells1.length))[j]? = cs[off + j]? := λ j hj => by rw [Array.getElem?_extract]; simp; omega
   obtain ⟨v, h1, h2⟩ := Jx (B := B) (e := d) (zs := cs.extract off (off + d.cells1.length)) (by simp; omega) (λ j x z hx hz' => by
    have hlt := (List.getElem?_eq_some_iff.1 hx).1
    rw [hz j hlt] at hz'
    exact hr j x z hx hz')
   have hlt := (List.getElem?_eq_some_iff.1 hx).1
   exact h2 a hs (CM a d v hs h1) j x y hx (by rw [hz j (by omega)]; exact hy)
theorem PO : ∀ (l : List DVal) (j : Nat) (x y : DVal) (v : Value), l[j]? = some x -> CO x y -> DRel B y v -> DRel B x v
 | [], j, x, y, v, hx, _, _ => by simp at hx
 | a :: l, 0, x, y, v, hx, h, hv => by simp at hx; subst hx; exact CM a y v h hv
 | a :: l, j + 1, x, y, v, hx, h, hv => PO l j x y v (by simpa using hx) h hv
end
end Go.Sym

namespace Go.Sym
variable {P : Program} {B B' : Imm} {ι ι' : Nat -> Pl} {H H' : Heap} {D : Nat -> Prop} {w w' : World}
mutual
def QF (ρ : Nat -> Nat) (p : Nat -> Bool) : AVal -> AVal -> Prop
 | .any, _ => True
 | .d x, .d y => CO x y
 | .agg xs, .agg ys => JL ρ p xs ys
 | .tup xs, .tup ys => JL ρ p xs ys
 | .bptr i c, .bptr j d => j = ρ i /\ p i = true /\ c = d
 | .rptr i k e c, .rptr j k' e' c' => j = ρ i /\ p i = true /\ k = k' /\ e = e' /\ c = c'
 | .own i k e n, .own j k' e' n' => j = ρ i /\ p i = true /\ k = k' /\ e = e' /\ n = n'
 | .fn f a b, .fn g c d => f = g /\ JL ρ p a c /\ JL ρ p b d
 | .mref i, .mref j => j = ρ i /\ p i = true
 | .opt g a, .opt h b => g = h /\ QF ρ p a b
 | _, _ => False
def JL (ρ : Nat -> Nat) (p : Nat -> Bool) : List AVal -> List AVal -> Prop
 | [], [] => True
 | x :: xs, y :: ys => QF ρ p x y /\ JL ρ p xs ys
 | _, _ => False
end
theorem IU {ρ : Nat -> Nat} {p : Nat -> Bool} : ∀ {xs ys : List AVal}, JL ρ p xs ys -> xs.length = ys.length
 | [], [], _ => rfl
 | x :: xs, y :: ys, h => by simp only [JL] at h; simp [IU h.2]
 | [], _ :: _, h => by simp [JL] at h
 | _ :: _, [], h => by simp [JL] at h
theorem IN {ρ : Nat -> Nat} {p : Nat -> Bool} : ∀ {xs ys : List AVal}, JL ρ p xs ys -> ∀ {j : Nat} {x : AVal}, xs[j]? = some x -> ∃ y, ys[j]? = some y /\ QF ρ p x y
 | [], [], _, j, x, hx => by simp at hx
 | a :: xs, b :: ys, h, 0, x, hx => by simp only [JL] at h; simp at hx; subst hx; exact ⟨b, rfl, h.1⟩
 | a :: xs, b :: ys, h, j + 1, x, hx => by
  simp only [JL] at h
  obtain ⟨y, hy, hs⟩ := IN h.2 (j := j) (by simpa using hx)
  exact ⟨y, by simpa using hy, hs⟩
 | [], _ :: _, h, _, _, _ => by simp [JL] at h
 | _ :: _, [], h, _, _, _ => by simp [JL] at h
mutual
theorem NJ {ρ : Nat -> Nat} {p : Nat -> Bool} {D' : Nat -> Prop} (hp : ∀ i, p i = true -> D' i) : ∀ (x y : AVal) (v : Value), QF ρ p x y -> VRel B ι D y v -> VRel B (λ i => ι (ρ i)) D' x v
 | .any, _, _, _, _ => .any
 | .d x, y, v, h, hv => by cases y <;> simp only [QF] at h; exact .d (CM _ _ _ h hv.d_inv)
 | .agg xs, y, v, h, hv => by
  cases y <;> simp only [QF] at h
  cases hv with
  | agg hl hr =>
   exact .agg (by rw [hl, IU h]) λ j x z hx hz => by
    obtain ⟨y, hy, hs⟩ := IN h hx
    exact HR hp xs j x y z hx hs (hr j y z hy hz)
 | .tup xs, y, v, h, hv => by
  cases y <;> simp only [QF] at h
  cases hv with
  | tup hl hr =>
   exact .tup (by rw [hl, IU h]) λ j x z hx hz => by
    obtain ⟨y, hy, hs⟩ := IN h hx
    exact HR hp xs j x y z hx hs (hr j y z hy hz)
 | .bptr i c, y, v, h, hv => by
  cases y <;> simp only [QF] at h
  obtain ⟨rfl, h2, rfl⟩ := h
  cases hv; exact VRel.bptr (ι := λ i => ι (ρ i)) (hp _ h2)
 | .rptr i k e c, y, v, h, hv => by
  cases y <;> simp only [QF] at h
  obtain ⟨rfl, h2, rfl, rfl, rfl⟩ := h
  cases hv; exact VRel.rptr (ι := λ i => ι (ρ i)) (hp _ h2)
 | .own i k e n, y, v, h, hv => by
  cases y <;> simp only [QF] at h
  obtain ⟨rfl, h2, rfl, rfl, rfl⟩ := h
  cases hv with
  | own _ h3 h4 => exact VRel.own (ι := λ i => ι (ρ i)) (hp _ h2) h3 h4
 | .fn f a b, y, v, h, hv => by
  cases y <;> simp only [QF] at h
  obtain ⟨rfl, h1, h2⟩ := h
  cases hv with
  | fn h3 h4 h5 h6 =>
   exact .fn (by rw [h3, IU h1]) (by rw [h4, IU h2])
    (λ j x z hx hz => by
     obtain ⟨y, hy, hs⟩ := IN h1 hx
     exact HR hp a j x y z hx hs (h5 j y z hy hz))
    λ j x z hx hz => by
     obtain ⟨y, hy, hs⟩ := IN h2 hx
     exact HR hp b j x y z hx hs (h6 j y z hy hz)
 | .mref i, y, v, h, hv => by
  cases y <;> simp only [QF] at h
  obtain ⟨rfl, h2⟩ := h
  cases hv; exact VRel.mref (ι := λ i => ι (ρ i)) (hp _ h2)
 | .opt g a, y, v, h, hv => by
  cases y <;> simp only [QF] at h
  obtain ⟨rfl, h2⟩ := h
  cases hv with
  | opt h3 h4 => exact .opt (λ hg => NJ hp a _ v h2 (h3 hg)) h4
theorem HR {ρ : Nat -> Nat} {p : Nat -> Bool} {D' : Nat -> Prop} (hp : ∀ i, p i = true -> D' i) : ∀ (l : List AVal) (j : Nat) (x y : AVal) (v : Value), l[j]? = some x -> QF ρ p x y -> VRel B ι D y v -> VRel B (λ i => ι (ρ i)) D' x v
 | [], j, x, y, v, hx, _, _ => by simp at hx
 | a :: l, 0, x, y, v, hx, h, hv => by simp at hx; subst hx; exact NJ hp a y v h hv
 | a :: l, j + 1, x, y, v, hx, h, hv => HR hp l j x y v (by simpa using hx) h hv
end
def Hn (ρ : Nat -> Nat) (p : Nat -> Bool) : AObj -> AObj -> Prop
 | .row k n g, .row k' n' g' => k = k' /\ n = n' /\ ∀ i, i < n -> CO (g i) (g' i)
 | .box es, .box es' => JL ρ p es es'
 | .imap q z h g s p, .imap q' z' h' g' s' p' => q = q' /\ z = z' /\ p = p' /\ (∀ n, h n = h' n) /\ (∀ n, s n = s' n) /\ ∀ n, CO (g n) (g' n)
 | _, _ => False
theorem SE {ρ : Nat -> Nat} {p : Nat -> Bool} {D' : Nat -> Prop} (hp : ∀ i, p i = true -> D' i) {q : Nat} {a b : AObj} {x : Option Obj} (h : Hn ρ p a b) (hb : ORel B ι D q b x) : ORel B (λ i => ι (ρ i)) D' q a x := by
 cases a with
 | row k n g =>
  cases b <;> simp only [Hn] at h
  obtain ⟨rfl, rfl, hg⟩ := h
  cases hb with
  | row hk hn hsz hr =>
   refine .row (λ i hi => US (hg i hi) (hk i hi)) hn hsz λ i j x y hi hx hy => ?_
   have h1 : (i + 1) * k <= n * k := Nat.mul_le_mul_right k hi
   have h2 : (i + 1) * k = i * k + k := Nat.succ_mul i k
   have h3 : n * k <= q * k := Nat.mul_le_mul_right k hn
   exact VE (hg i hi) (hk i hi) (by omega) (λ j x y hx hy => hr i j x y hi hx hy) (λ v hv => CM (g i) _ v (hg i hi) hv) j x y hx hy
 | box es =>
  cases b <;> simp only [Hn] at h
  cases hb with
  | box hsz hr =>
   exact .box (by rw [hsz, IU h]) λ j x z hx hz => by
    obtain ⟨y, hy, hs⟩ := IN h hx
    exact HR hp es j x y z hx hs (hr j y z hy hz)
 | imap kd z has get st pend =>
  cases b <;> simp only [Hn] at h
  obtain ⟨rfl, rfl, rfl, hh, hs, hg⟩ := h
  cases hb with
  | imap hm =>
   refine .imap ⟨λ i e he => ?_, λ n hn => ?_, λ n hn => hm.met n (by rw [<- hh n]; exact hn), hm.once⟩
   ·obtain ⟨n, h1, h2, h3, h4, h5⟩ := hm.keys i e he
    exact ⟨n, h1, by rw [hh n]; exact h2, h3, by rw [hs n]; exact h4, CM _ _ _ (hg n) h5⟩
   ·obtain ⟨h1, h2⟩ := hm.miss n (by rw [<- hh n]; exact hn)
    exact ⟨CM _ _ _ (hg n) h1, by rw [hs n]; exact h2⟩
def DQ : List (Nat × AVal) -> Nat -> AVal
 | [], _ => .any
 | (j, v) :: r, t => if t = j then v else DQ r t
def ML (l : List (Nat × HCell)) : Heap := λ i => (GQ l i).getD .none
structure ST where
 sl : List (Nat × AVal)
 H : List (Nat × HCell)
def ST.st (s : ST) : AState := ⟨DQ s.sl, ML s.H⟩
def Nw (ρ : Nat -> Nat) (p : Nat -> Bool) (sl : Nat -> AVal) : List (Nat × AVal) -> Prop
 | [] => True
 | (t, v) :: r => QF ρ p v (sl t) /\ Nw ρ p sl r
def Nc (ρ : Nat -> Nat) (p : Nat -> Bool) : HCell -> HCell -> Prop
 | .live o, .live o' => Hn ρ p o o'
 | .dead, .live _ => True
 | .dead, .dead => True
 | _, _ => False
def Th (ρ : Nat -> Nat) (p : Nat -> Bool) (H : Heap) : List (Nat × HCell) -> Prop
 | [] => True
 | (i, c) :: r => Nc ρ p c (H (ρ i)) /\ Th ρ p H r
def DJ (l : List (Nat × Nat)) (i : Nat) : Nat := match l with
 | [] => i
 | (a, b) :: r => if i = a then b else DJ r i
def Se (E : List Nat) (l : List (Nat × Nat)) (s : ST) (σ : AState) : Prop :=
 Nw (DJ l) (λ i => (GQ s.H i).isSome) σ.sl s.sl /\ Th (DJ l) (λ i => (GQ s.H i).isSome) σ.H s.H /\
  (nodup (s.H.map λ x => DJ l x.1) && E.all λ i => DJ l i == i && (GQ s.H i).isSome) = true
theorem De {ρ : Nat -> Nat} {p : Nat -> Bool} {sl : Nat -> AVal} : ∀ {l : List (Nat × AVal)}, Nw ρ p sl l -> ∀ t, QF ρ p (DQ l t) (sl t)
 | [], _, t => by simp [DQ, QF]
 | (j, v) :: r, h, t => by
  simp only [DQ]
  split
  ·rename_i e; subst e; exact h.1
  ·exact De h.2 t
theorem YQ {ρ : Nat -> Nat} {p : Nat -> Bool} {H : Heap} : ∀ {l : List (Nat × HCell)}, Th ρ p H l -> ∀ {i : Nat} {c : HCell}, (i, c) ∈ l -> Nc ρ p c (H (ρ i))
 | [], _, i, c, h => by cases h
 | (j, d) :: r, h, i, c, hm => by
  rcases List.mem_cons.1 hm with hm | hm
  ·cases hm; exact h.1
  ·exact YQ h.2 hm
theorem Rel.sub {c : Ctx} {E : List Nat} {l : List (Nat × Nat)} {s : ST} {σ : AState} {a : Act} (hE : ∀ i, c.H0.dom i -> i ∈ E) (h : Se E l s σ) (hR : Rel c B ι σ a w) : Rel c B (λ i => ι (DJ l i)) s.st a w := by
 obtain ⟨h1, h2, h3⟩ := h
 simp only [Bool.and_eq_true, List.all_eq_true, beq_iff_eq] at h3
 obtain ⟨h3, h4⟩ := h3
 have hnd := FJ h3
 have hdom : ∀ i, (λ i => (GQ s.H i).isSome) i = true -> (ST.st s).H.dom i := λ i hi => by
  obtain ⟨d, hd⟩ := Option.isSome_iff_exists.1 hi
  have := YQ h2 (FQ hd)
  unfold Heap.dom
  show (GQ s.H i).getD .none ≠ .none
  rw [hd]
  intro he
  simp at he; subst he
  simp [Nc] at this
 have live : ∀ i o, (ST.st s).H i = .live o -> (i, .live o) ∈ s.H /\ ∃ o', σ.H (DJ l i) = .live o' /\ Hn (DJ l) (λ i => (GQ s.H i).isSome) o o' := λ i o hi => by
  have hg : GQ s.H i = some (.live o) := by
   have : (GQ s.H i).getD .none = .live o := hi
   cases hq : GQ s.H i with
   | none => rw [hq] at this; cases this
   | some d => rw [hq] at this; simpa using this
  have hm := FQ hg
  have := YQ h2 hm
  refine ⟨hm, ?_⟩
  cases hq : σ.H (DJ l i) with
  | live o' => rw [hq] at this; exact ⟨o', rfl, this⟩
  | none => rw [hq] at this; simp [Nc] at this
  | dead => rw [hq] at this; simp [Nc] at this
 refine ⟨λ t => NJ hdom _ _ _ (De h1 t) (hR.slots t), hR.size, ?_, ?_⟩
 ·obtain ⟨Ds, d1, d0, d2, d3⟩ := hR.defers
  refine ⟨Ds, d1, d0, d2, λ D hD => ⟨(d3 D hD).1, (d3 D hD).2.here, λ i o hi => ?_⟩⟩
  obtain ⟨_, o', ho, _⟩ := live i o hi
  exact (d3 D hD).2.sep _ _ ho
 have hm := hR.mv
 refine ⟨hm.bm, hm.bn, λ i hi => ?_, ⟨λ i o hi => ?_, λ i j o o' hi hj hij => ?_, λ i o hi => ?_, hm.heap.imm⟩, λ i o hi => ?_, hm.frame, hm.size, hm.calm⟩
 ·obtain ⟨h5, h6⟩ := h4 i (hE i hi)
  exact ⟨hdom i h6, by rw [h5]; exact (hm.im i hi).2⟩
 ·obtain ⟨_, o', ho, hs⟩ := live i o hi
  exact SE hdom hs (hm.heap.obj _ _ ho)
 ·obtain ⟨m1, o1, ho1, _⟩ := live i o hi
  obtain ⟨m2, o2, ho2, _⟩ := live j o' hj
  exact (TE hnd m1 m2 (hm.heap.inj _ _ _ _ ho1 ho2 hij)).1
 ·obtain ⟨_, o', ho, _⟩ := live i o hi
  exact hm.heap.sep _ _ ho
 ·obtain ⟨_, o', ho, _⟩ := live i o hi
  exact hm.own _ _ ho
theorem CodeE.sub {c : Ctx} {E : List Nat} {l : List (Nat × Nat)} {s : ST} {σ : AState} {code : Code} {Q : Exit -> AState -> Prop} (hE : ∀ i, c.H0.dom i -> i ∈ E) (hs : Se E l s σ) (h : CodeE P c code Q s.st) : CodeE P c code Q σ :=
 λ _ _ a w hR => h _ _ a w (hR.sub hE hs)
end Go.Sym
