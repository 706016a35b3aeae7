/- A function's contract, taken over into a caller: names are told otherwise, rows that are wanted as data are frozen. -/
import Derived.Test.YtgjkmndbkidgjaaGreatSym10
import Derived.Test.YtgjkmndbkidgjaaGreatSym11
set_option linter.unusedVariables false
set_option linter.unusedSimpArgs false
namespace Go.Sym
variable {P : Program} {B B' : HN} {ι ι' : Nat -> Pl} {H H' : Heap} {D : Nat -> Prop} {w w' : World}
structure Ctr where
  α : Type
  xs : α -> List AVal
  L : α -> List (Nat × AObj) := λ _ => []
  val : α -> AVal
  keep : α -> List (Nat × HCell) := λ _ => []
  pre : α -> List Prop := λ _ => []
  /-- names whose objects the caller goes on to know as before -/
  ro : List Nat := []
def BDK (P : Program) (g : FuncId) (C : Ctr) : Prop := ∀ a, BG (C.pre a) -> FnT P g (C.xs a) (AK (C.L a)) (C.val a) (C.keep a)
def aX (F : Bg) (ρ : Nat -> Nat) (p : Nat -> Bool) (H : Heap) : List (Nat × AObj) -> Option (List Prop)
  | [] => some []
  | (i, o) :: r => WW (fI F ρ p (.live o) (H (ρ i))) (aX F ρ p H r)
theorem Lo {F : Bg} {ρ : Nat -> Nat} {p : Nat -> Bool} {H : Heap} : ∀ {l : List (Nat × AObj)}, CJ (aX F ρ p H l) -> ∀ i o, (i, o) ∈ l -> ∃ o', H (ρ i) = .live o' /\ CJ (LM F ρ p o o')
  | [], _, i, o, h => by cases h
  | (j, x) :: r, h, i, o, hm => by
    obtain ⟨h1, h2⟩ := CM h
    rcases List.mem_cons.1 hm with hm | hm
    · cases hm
      cases hq : H (ρ j) with
      | live o' => rw [hq] at h1; exact ⟨o', rfl, h1⟩
      | none => rw [hq] at h1; simp only [fI] at h1; exact h1.elim
      | dead => rw [hq] at h1; simp only [fI] at h1; exact h1.elim
    · exact Lo h2 i o hm
def pV : HCell -> Bool
  | .live (.row _ _ _) => true
  | _ => false
def noF : Bg := λ _ => none
def Ys (H : Heap) (ρ : Nat -> Nat) (L : List (Nat × AObj)) (ro : List Nat) : List (Nat × HCell) -> Option (List Prop)
  | [] => some []
  | (i, c) :: r => if ro.contains i then match H (ρ i), c with
      | .live o', .live o => if (DF L i).isSome then WW (LM noF (λ j => j) (λ j => L.any λ x => Nat.beq (ρ x.1) j) o' (Ty ρ o)) (Ys H ρ L ro r) else none
      | _, _ => none
    else Ys H ρ L ro r
theorem Hh {H : Heap} {ρ : Nat -> Nat} {L : List (Nat × AObj)} {ro : List Nat} : ∀ {l : List (Nat × HCell)}, CJ (Ys H ρ L ro l) -> ∀ i c, (i, c) ∈ l -> i ∈ ro -> ∃ o' o, H (ρ i) = .live o' /\ c = .live o /\ (DF L i).isSome = true /\ CJ (LM noF (λ j => j) (λ j => L.any λ x => Nat.beq (ρ x.1) j) o' (Ty ρ o))
  | [], _, i, c, h, _ => by cases h
  | (j, x) :: r, h, i, c, hm, hi => by
    simp only [Ys] at h
    rcases List.mem_cons.1 hm with hm1 | hm1
    · cases hm1
      rw [if_pos (by simpa using hi)] at h
      split at h
      · rename_i o' o h1
        split at h
        · rename_i h2
          exact ⟨o', o, h1, rfl, h2, (CM h).1⟩
        · exact h.elim
      · exact h.elim
    · split at h
      · split at h
        · split at h
          · exact Hh (CM h).2 i c hm1 hi
          · exact h.elim
        · exact h.elim
      · exact Hh h i c hm1 hi
theorem Moved.weakH {H1 H2 : Heap} (m : Moved B ι H w B' ι' H1 w') (hd : ∀ i, H2.dom i ↔ H1.dom i) (ho : ∀ i o, H2 i = .live o -> ∃ o1, H1 i = .live o1 /\ ∀ x, ORel B' ι' H1.dom (ι' i).cap o1 x -> ORel B' ι' H2.dom (ι' i).cap o x) : Moved B ι H w B' ι' H2 w' := by
  refine ⟨m.bm, m.bn, λ i hi => ⟨(hd i).2 (m.im i hi).1, (m.im i hi).2⟩, ⟨λ i o hi => ?_, λ i j o o' hi hj h => ?_, λ i o hi => ?_, m.heap.imm⟩, λ i o hi => ?_, m.frame, m.size, m.calm⟩
  · obtain ⟨o1, h1, h2⟩ := ho i o hi
    exact h2 _ (m.heap.obj i o1 h1)
  · obtain ⟨o1, h1, _⟩ := ho i o hi
    obtain ⟨o2, h2, _⟩ := ho j o' hj
    exact m.heap.inj i j o1 o2 h1 h2 h
  · obtain ⟨o1, h1, _⟩ := ho i o hi
    exact m.heap.sep i o1 h1
  · obtain ⟨o1, h1, _⟩ := ho i o hi
    exact m.own i o1 h1
def Ctr.keepW (C : Ctr) (a : C.α) : List (Nat × HCell) := (C.keep a).filter λ x => !C.ro.contains x.1
def Ctr.spec (C : Ctr) (dec : List AVal -> Heap -> Option (C.α × List (Nat × Nat) × List Nat)) : Spec := λ xs H r => match dec xs H with
  | none => none
  | some (a, l, fz) => if fZ (C.xs a) (C.L a) (C.val a) (C.keep a) (λ i => if (DF (C.L a) i).isSome then EA l i else r + i) r && nodup fz && fz.all (λ i => pV (H i)) then
      match WW (EL (EM H fz) (λ i => if (DF (C.L a) i).isSome then EA l i else r + i) (λ i => (DF (C.L a) i).isSome) (C.xs a) xs)
          (WW (aX (EM H fz) (λ i => if (DF (C.L a) i).isSome then EA l i else r + i) (λ i => (DF (C.L a) i).isSome) (CF H fz) (C.L a))
            (Ys (CF H fz) (λ i => if (DF (C.L a) i).isSome then EA l i else r + i) (C.L a) C.ro (C.keep a))) with
      | some p => some ⟨fz ++ (C.L a).map λ x => EA l x.1, PG (λ i => if (DF (C.L a) i).isSome then EA l i else r + i) (C.val a), (fz.map λ i => (i, .dead)) ++ JQ (λ i => if (DF (C.L a) i).isSome then EA l i else r + i) (C.keepW a), p ++ C.pre a⟩
      | none => none
    else none
theorem gA : ∀ (u v : List (Nat × HCell)) (H : Heap), BW H (u ++ v) = BW (BW H u) v
  | [], _, _ => rfl
  | (i, c) :: u, v, H => by simp only [List.cons_append, BW]; exact gA u v _
theorem Rw : ∀ (fz : List Nat) (H : Heap), fz.Nodup -> (∀ i ∈ fz, pV (H i) = true) -> BW H (fz.map λ i => (i, .dead)) = CF H fz
  | [], _, _, _ => rfl
  | i :: r, H, hn, hr => by
    have h1 := hr i (by simp)
    simp only [List.map_cons, BW, CF]
    have hn' := List.nodup_cons.1 hn
    have h2 : ∀ j ∈ r, pV (CH H i .dead j) = true := λ j hj => by
      rw [CV _ _ (show j ≠ i from λ he => hn'.1 (he ▸ hj))]
      exact hr j (by simp [hj])
    cases hq : H i with
    | live o => cases o with
      | row => simp only; exact Rw r _ hn'.2 h2
      | _ => rw [hq] at h1; cases h1
    | _ => rw [hq] at h1; cases h1
theorem LG : ∀ (ids : List Nat) {H : Heap} {i : Nat}, H i = .none -> CF H ids i = .none
  | [], _, _, h => h
  | id :: r, H, i, h => by
    simp only [CF]
    cases hq : H id with
    | live o => cases o with
      | row =>
        simp only
        refine LG r ?_
        rw [CV]
        · exact h
        · intro he; rw [he, hq] at h; cases h
      | _ => exact LG r h
    | _ => exact LG r h
theorem fR {fz : List Nat} (h : ∀ i ∈ fz, H' i = H i) : EM H' fz = EM H fz := by
  funext i
  unfold EM
  split
  · rename_i hi; rw [h i (by simpa using hi)]
  · rfl
theorem Ad : ∀ (fz : List Nat) {H H' : Heap} (i : Nat), fz.Nodup -> (∀ j ∈ fz, H' j = H j) -> (i ∉ fz -> H' i = H i) -> CF H' fz i = CF H fz i
  | [], _, _, i, _, _, h => h (by simp)
  | j :: r, H, H', i, hn, hf, h => by
    have hn' := List.nodup_cons.1 hn
    have e := hf j (by simp)
    simp only [CF, e]
    have go : ∀ (K K' : Heap), (∀ k ∈ r, K' k = K k) -> (i ∉ r -> K' i = K i) -> CF K' r i = CF K r i := λ K K' h1 h2 => Ad r i hn'.2 h1 h2
    have up : ∀ x, CF (CH H' j x) r i = CF (CH H j x) r i := λ x => by
      refine go _ _ (λ k hk => ?_) (λ hi => ?_)
      · have hne : k ≠ j := λ he => hn'.1 (he ▸ hk)
        rw [CV _ _ hne, CV _ _ hne]; exact hf k (by simp [hk])
      · by_cases he : i = j
        · subst he; rw [CW, CW]
        · rw [CV _ _ he, CV _ _ he]; exact h (by simp [he, hi])
    have same : CF H' r i = CF H r i := go _ _ (λ k hk => hf k (by simp [hk])) λ hi => by
      by_cases he : i = j
      · subst he; exact e
      · exact h (by simp [he, hi])
    cases H j with
    | live o => cases o with
      | row => exact up _
      | _ => exact same
    | _ => exact same
theorem Ctr.spec_ok {C : Ctr} {g : FuncId} (h : BDK P g C) (dec : List AVal -> Heap -> Option (C.α × List (Nat × Nat) × List Nat)) : AR P g (C.spec dec) := by
  intro xs H r x hx hp
  unfold Ctr.spec at hx
  split at hx
  · cases hx
  · rename_i a l fz hd
    generalize hρ : (λ i => if (DF (C.L a) i).isSome then EA l i else r + i) = ρ at hx
    have hρL : ∀ i o, DF (C.L a) i = some o -> ρ i = EA l i := λ i o ho => by rw [<- hρ]; simp [ho]
    split at hx
    · rename_i hok
      simp only [Bool.and_eq_true, List.all_eq_true] at hok
      obtain ⟨⟨ok1, ok2⟩, ok3⟩ := hok
      have hnd := GG ok2
      split at hx
      · rename_i p hc
        cases hx
        obtain ⟨hp1, hp2⟩ := BD hp
        have hc' : CJ (WW (EL (EM H fz) ρ (λ i => (DF (C.L a) i).isSome) (C.xs a) xs) (WW (aX (EM H fz) ρ (λ i => (DF (C.L a) i).isSome) (CF H fz) (C.L a)) (Ys (CF H fz) ρ (C.L a) C.ro (C.keep a)))) := by rw [hc]; exact hp1
        obtain ⟨h1, h2⟩ := CM hc'
        obtain ⟨h2, hro⟩ := CM h2
        have hfn := h a hp2
        intro H' hcells hfresh
        have hfz : ∀ i ∈ fz, H' i = H i := λ i hi => hcells (i, H i) (List.mem_map.2 ⟨i, by simp [hi], rfl⟩)
        have hL : ∀ i o, DF (C.L a) i = some o -> H' (ρ i) = H (ρ i) := λ i o ho => by
          have hm := PE ho
          rw [hρL i o ho]
          exact hcells (EA l i, H (EA l i)) (List.mem_map.2 ⟨EA l i, List.mem_append_right _ (List.mem_map.2 ⟨(i, o), hm, rfl⟩), rfl⟩)
        refine ⟨hfn.1, λ B ι w vs ha hH => ?_⟩
        obtain ⟨B', hk, hF⟩ := FU fz hH
        rw [fR hfz] at hF
        have hdom : ∀ i, (DF (C.L a) i).isSome = true -> (AK (C.L a)).dom i := λ i hi => by
          unfold Heap.dom AK
          obtain ⟨o, ho⟩ := Option.isSome_iff_exists.1 hi
          rw [ho]; simp
        have hcall := FnT.at hfn ρ r ok1 (CF H' fz) (λ i h3 h4 => LG fz (hfresh i h3 h4)) hk.heap (vs := vs)
          ⟨by rw [ha.1, FO h1], λ j x y hx hy => by
            obtain ⟨x', hx', hs⟩ := FY h1 hx
            exact LF hF hdom _ _ _ hs (ha.2 j _ y hx' hy)⟩
          (λ i o ho => by
            obtain ⟨o', h3, h4⟩ := Lo h2 i o (PE ho)
            rw [<- Ad (H := H) (H' := H') fz (ρ i) hnd hfz λ _ => hL i o ho] at h3
            exact ⟨⟨o', h3⟩, PQ hF hdom h4 (hH.obj _ _ (KR fz h3))⟩)
        refine Calls.mono hcall λ e w' hh => ?_
        obtain ⟨v, rfl, B2, ι2, h3, h4⟩ := hh
        rw [gA, Rw fz H' hnd λ i hi => by rw [hfz i hi]; exact ok3 i hi]
        -- what the caller knows of the objects that are only read
        have hK : CF H' fz = CF H' fz := rfl
        have hemb := ok1
        simp only [fZ, Bool.and_eq_true, List.all_eq_true] at hemb
        obtain ⟨⟨⟨⟨⟨_, _⟩, e3⟩, e4⟩, _⟩, e6⟩ := hemb
        have hnk := GG e6
        have hnw : ((C.keepW a).map λ x => ρ x.1).Nodup := (List.Sublist.map (λ x : Nat × HCell => ρ x.1) List.filter_sublist).nodup hnk
        have in1 : ∀ i c, (i, c) ∈ C.keep a -> BW (CF H' fz) (JQ ρ (C.keep a)) (ρ i) = wP ρ c := λ i c hi => LX _ hnk hi
        have in2 : ∀ i c, (i, c) ∈ C.keep a -> ¬ i ∈ C.ro -> BW (CF H' fz) (JQ ρ (C.keepW a)) (ρ i) = wP ρ c := λ i c hi hn => LX _ hnw (List.mem_filter.2 ⟨hi, by simpa using hn⟩)
        have out1 : ∀ j, (∀ i c, (i, c) ∈ C.keep a -> ρ i ≠ j) -> BW (CF H' fz) (JQ ρ (C.keep a)) j = CF H' fz j := λ j hj => IC _ _ _ (by
          rw [oT]; intro hm
          obtain ⟨⟨i, c⟩, q1, q2⟩ := List.mem_map.1 hm
          exact hj i c q1 q2)
        have out2 : ∀ j, (∀ i c, (i, c) ∈ C.keep a -> ¬ i ∈ C.ro -> ρ i ≠ j) -> BW (CF H' fz) (JQ ρ (C.keepW a)) j = CF H' fz j := λ j hj => IC _ _ _ (by
          rw [oT]; intro hm
          obtain ⟨⟨i, c⟩, q1, q2⟩ := List.mem_map.1 hm
          obtain ⟨q3, q4⟩ := List.mem_filter.1 q1
          exact hj i c q3 (by simpa using q4) q2)
        have inro : ∀ i c, (i, c) ∈ C.keep a -> i ∈ C.ro -> ∃ o' o, CF H' fz (ρ i) = .live o' /\ c = .live o /\ BW (CF H' fz) (JQ ρ (C.keepW a)) (ρ i) = .live o' /\ CJ (LM noF (λ j => j) (λ j => (C.L a).any λ x => Nat.beq (ρ x.1) j) o' (Ty ρ o)) := λ i c hi hr => by
          obtain ⟨o', o, q1, q2, q3, q4⟩ := Hh hro i c hi hr
          obtain ⟨oL, hoL⟩ := Option.isSome_iff_exists.1 q3
          have q5 : CF H' fz (ρ i) = .live o' := by rw [Ad (H := H) (H' := H') fz (ρ i) hnd hfz λ _ => hL i oL hoL]; exact q1
          refine ⟨o', o, q5, q2, ?_, q4⟩
          rw [out2]
          · exact q5
          · intro i' c' hi' hn' he
            exact hn' ((Kz hnk hi' hi he).1 ▸ hr)
        have caseJ : ∀ j, (∃ i c, (i, c) ∈ C.keep a /\ ρ i = j) ∨ (∀ i c, (i, c) ∈ C.keep a -> ρ i ≠ j) := λ j => by
          by_cases hj : ∃ i c, (i, c) ∈ C.keep a /\ ρ i = j
          · exact .inl hj
          · exact .inr λ i c h1 h2 => hj ⟨i, c, h1, h2⟩
        have hd12 : ∀ j, (BW (CF H' fz) (JQ ρ (C.keepW a))).dom j ↔ (BW (CF H' fz) (JQ ρ (C.keep a))).dom j := λ j => by
          rcases caseJ j with ⟨i, c, hi, rfl⟩ | hn
          · have hcn : wP ρ c ≠ .none := by
              have := (e4 (i, c) hi).1.1
              cases c <;> simp [wP, Wm] at this ⊢
            by_cases hr : i ∈ C.ro
            · obtain ⟨o', o, _, q2, q3, _⟩ := inro i c hi hr
              unfold Heap.dom; rw [q3, in1 i c hi]; simp [hcn]
            · unfold Heap.dom; rw [in1 i c hi, in2 i c hi hr]
          · unfold Heap.dom; rw [out1 j hn, out2 j λ i c hi _ => hn i c hi]
        have hF2 : ZP B2 B2 ι2 noF := ⟨λ _ _ h => h, λ id k m get h => by cases h⟩
        have hpd : ∀ j, ((C.L a).any λ x => Nat.beq (ρ x.1) j) = true -> (BW (CF H' fz) (JQ ρ (C.keepW a))).dom j := λ j hj => by
          obtain ⟨⟨i, o⟩, q1, q2⟩ := List.any_eq_true.1 hj
          have q2 : ρ i = j := Nat.eq_of_beq_eq_true q2
          obtain ⟨c, hcm⟩ := Option.isSome_iff_exists.1 (by
            have := e3 (i, o) q1
            exact this.1)
          rw [hd12, <- q2]
          unfold Heap.dom; rw [in1 i c (GI hcm)]
          have := (e4 (i, c) (GI hcm)).1.1
          cases c <;> simp [wP, Wm] at this ⊢
        have h3' : Moved B' ι (CF H' fz) w B2 ι2 (BW (CF H' fz) (JQ ρ (C.keepW a))) w' := by
          refine h3.weakH hd12 λ j o hj => ?_
          rcases caseJ j with ⟨i, c, hi, rfl⟩ | hn
          · by_cases hr : i ∈ C.ro
            · obtain ⟨o', o2, _, q2, q3, q4⟩ := inro i c hi hr
              rw [q3] at hj
              cases hj
              refine ⟨Ty ρ o2, by rw [in1 i c hi, q2]; rfl, λ x hx => PQ (ι := ι2) (ρ := λ j => j) hF2 hpd q4 hx⟩
            · rw [in2 i c hi hr] at hj
              exact ⟨o, by rw [in1 i c hi]; exact hj, λ x hx => hx.mono (λ _ _ h => h) λ i hi => ⟨(hd12 i).2 hi, rfl⟩⟩
          · rw [out2 j λ i c hi _ => hn i c hi] at hj
            exact ⟨o, by rw [out1 j hn]; exact hj, λ x hx => hx.mono (λ _ _ h => h) λ i hi => ⟨(hd12 i).2 hi, rfl⟩⟩
        exact ⟨v, rfl, B2, ι2, hk.trans h3', h4.mono (λ _ _ h => h) λ i hi => ⟨(hd12 i).2 hi, rfl⟩⟩
      · cases hx
    · cases hx
def look : List (FuncId × Spec) -> FuncId -> Option Spec
  | [], _ => none
  | (g, s) :: r, f => if Nat.beq g f then some s else look r f
theorem AM : wE P (look []) := λ _ _ h => by cases h
theorem AH {f : FuncId} {t : Spec} {r : List (FuncId × Spec)} (h : AR P f t) (hr : wE P (look r)) : wE P (look ((f, t) :: r)) := λ g s hs => by
  simp only [look] at hs
  split at hs
  · rename_i he
    cases hs
    have := Nat.eq_of_beq_eq_true he
    subst this
    exact h
  · exact hr g s hs
end Go.Sym

namespace Go.Sym
variable {P : Program} {B B' : HN} {ι ι' : Nat -> Pl} {H H' : Heap} {D : Nat -> Prop} {w w' : World} {c : Ctx} {σ : AState} {Q : Exit -> AState -> Prop}
structure Round where
  C : Ctr
def AFN (R : Round) (as : List AVal) (H : Heap) (kn : Heap -> Prop) : Prop := ∃ a : R.C.α,
  if fZ (R.C.xs a) (R.C.L a) (.bool true) (R.C.keep a) (λ i => i) 0 && LY H 0 then
    match WW (EL noF (λ i => i) (λ i => (DF (R.C.L a) i).isSome) (R.C.xs a) as) (aX noF (λ i => i) (λ i => (DF (R.C.L a) i).isSome) H (R.C.L a)) with
    | some p => RR (p ++ R.C.pre a) (kn (BW H (JQ (λ i => i) (R.C.keep a))))
    | none => False
  else False
structure IterAnn where
  fn : Func
  code : Code
  ann : AnnI
  live : List Nat
  round : Option Round := none
structure Ann extends AnnI where
  iter : FuncId -> Option IterAnn := λ _ => none
  cut : Nat -> Option Ed := λ _ => none
  iterIn : List Nat -> FuncId -> Option IterAnn := λ _ _ => none
  cutIn : List Nat -> Nat -> Option Ed := λ _ _ => none
  /-- regions whose appends are told apart -/
  md : Nat -> Option (Nat -> Nat) := λ _ => none
def Ann.iterAt (A : Ann) (gs : List Nat) (k : Nat) : Option IterAnn := match A.iterIn gs k with
  | some L => some L
  | none => A.iter k
def Ann.cutAt (A : Ann) (gs : List Nat) (k : Nat) : Option Ed := match A.cutIn gs k with
  | some L => some L
  | none => A.cut k
def A5 (sl : Nat -> AVal) : List Nat -> List AVal -> Nat -> AVal
  | p :: ps, v :: vs => A5 (LL sl (some p) v) ps vs
  | _, _ => sl
def AJD (Q : Exit -> AState -> Prop) (σ : AState) : Option Exit -> Prop
  | none => Q .normal σ
  | some .ret => Q .ret σ
  | some (.exit id) => Q (.exit id) σ
  | _ => False
def shf (A : AnnI) (c : Code) (H : Heap) : List Nat := match H (A.base (YJ c)) with
  | .none => [0]
  | _ => [1000000]
def unrE (V : Nat -> (AState -> Prop) -> AState -> Prop) : Nat -> AState -> Prop
  | 0, _ => False
  | n + 1, σ => V (utag n) (unrE V n) σ
def vc (P : Program) (A : Ann) : Code -> Bool -> List Nat -> (Exit -> AState -> Prop) -> AState -> Prop
  | .skip, _, _, Q, σ => Q .normal σ
  | .label _, _, _, Q, σ => Q .normal σ
  | .exit id, _, _, Q, σ => Q (.exit id) σ
  | .ret, _, _, Q, σ => Q .ret σ
  | .seq x y, b, gs, Q, σ => match b, A.cutAt gs (YJ y) with
    | false, some L => vc P A x false gs (ZB (λ σ' => ZC A.E (·.at1) σ' (λ s a => s.inv a) L) Q) σ /\ allS (λ s => ∀ a, s.inv a -> vc P A y false (s.tag ++ gs) Q (s.T a).st) L
    | b, _ => vc P A x b gs (ZB (vc P A y b gs Q) Q) σ
  | .cond x t e, b, gs, Q, σ => match BA σ.sl x with
    | .d (.v (.bool v)) => bif v then vc P A t b gs Q σ else vc P A e b gs Q σ
    | .d .anyB => vc P A t b gs Q σ /\ vc P A e b gs Q σ
    | _ => False
  | .block id x, b, gs, Q, σ => vc P A x b gs (AEK id Q) σ
  | .scope x, b, gs, Q, σ => vc P A x b gs (AHZ Q) σ
  | .loop x, b, gs, Q, σ => match A.unr (YJ x) with
    | k + 1 => unrE (λ t K σ' => vc P A x b (t :: gs) (ZB K Q) σ') (k + 1) σ
    | 0 => match b, A.loopAt gs (YJ x) with
    | false, some L => ZC A.E (·.at1) σ (λ s a => s.inv a) L /\
        allS (λ s => ∀ a, s.inv a -> vc P A x false (s.meas a :: (s.tag ++ gs)) (ZB (λ σ' => ZC A.E (·.at2) σ' (λ s' a' => s'.inv a' /\ s'.meas a' < s.meas a) L) Q) (s.T a).st) L
    | _, _ => False
  | .region id ops draw, b, gs, Q, σ => match A.md id with
    | none => VU P A.Γ (A.mt id) (A.base id + bif b then gs.foldr (· + ·) 0 else A.off gs) A.n ops draw σ λ σ' => Ew (if b then none else A.pack id) A.E σ' (Q .normal)
    | some f => if !draw && !b then QU P A.Γ f ops (A.base id + A.off gs) A.n (Q .normal) ops.toList 0 σ else if draw && !b then U1 P A.Γ f (A.base id + A.off gs) A.n ops σ (Q .normal) else False
  | .rangeFunc f ps assign body, b, gs, Q, σ => match b, BA σ.sl f with
    | false, .fn (.func g) [] caps => match A.iterAt gs g with
      | some x => if x.live.all (λ t => LP (λ i => x.ann.E.contains i) (σ.sl t)) && A.E.all (λ i => x.ann.E.contains i) && Nat.beq x.ann.n x.fn.ntmps && Nat.blt caps.length x.fn.ntmps && ps.toList.all (λ p => Nat.blt p A.n) && x.fn.results.isEmpty then
          match x.round with
          | none => ∀ l : Nat, vcI P x.ann l (λ as H' kn ks => if Nat.beq as.length ps.size then
              vc P A assign true (shf A.toAnnI assign H') (ZB (vc P A body true (shf A.toAnnI assign H') (λ e σ' => match e with
                | .normal => kn σ'.H
                | .ret => ks .ret σ'.H
                | .exit id => ks (.exit id) σ'.H
                | _ => False)) λ _ _ => False) ⟨A5 (DV (x.live.map λ t => (t, σ.sl t))) ps.toList as, H'⟩ else False)
            x.code (l :: gs) (λ e m σ' => match e with
              | .normal | .ret => AJD Q ⟨DV (x.live.map λ t => (t, σ.sl t)), σ'.H⟩ m
              | _ => False) none ⟨Gv (.fn (.yield l) [] [] :: caps), σ.H⟩
          | some R => (∀ a : R.C.α, BG (R.C.pre a) -> (Nat.beq (R.C.xs a).length ps.size && x.live.all (λ t => LP (λ i => (DF (R.C.L a) i).isSome) (σ.sl t))) = true /\
              vc P A assign true [0] (ZB (vc P A body true [0] (λ e σ' => match e with
                | .normal => CJ (IX ((R.C.L a).map (·.1)) [] [] ⟨[], R.C.keep a⟩ ⟨λ _ => .any, σ'.H⟩)
                | _ => False)) λ _ _ => False) ⟨A5 (DV (x.live.map λ t => (t, σ.sl t))) ps.toList (R.C.xs a), AK (R.C.L a)⟩) /\
            ∀ l : Nat, vcI P x.ann l (λ as H' kn _ => AFN R as H' kn)
            x.code (l :: gs) (λ e m σ' => match e with
              | .normal | .ret => AJD Q ⟨DV (x.live.map λ t => (t, σ.sl t)), σ'.H⟩ m
              | _ => False) none ⟨Gv (.fn (.yield l) [] [] :: caps), σ.H⟩
        else False
      | none => False
    | _, _ => False
  | _, _, _, _, _ => False
theorem uE {n : Nat} : ∀ (ps : List Nat) (vs : List AVal) (ys : List Value) (sl : Nat -> AVal) (tm : Array Value), tm.size = n -> (∀ p ∈ ps, p < n) -> vs.length = ps.length -> ys.length = ps.length ->
    (∀ t, VRel B ι D (sl t) (tm.getD t undef)) -> (∀ (j : Nat) (x : AVal) (y : Value), vs[j]? = some x -> ys[j]? = some y -> VRel B ι D x y) ->
    ∀ t, VRel B ι D (A5 sl ps vs t) (((ps.zip ys).foldl (λ tm (p, v) => tm.setIfInBounds p v) tm).getD t undef)
  | [], vs, ys, sl, tm, _, _, _, _, hs, _, t => by cases vs <;> exact hs t
  | p :: ps, v :: vs, y :: ys, sl, tm, hn, hp, h1, h2, hs, hv, t => by
    simp only [A5, List.zip_cons_cons, List.foldl_cons]
    refine uE (n := n) ps vs ys _ _ (by simpa using hn) (λ q hq => hp q (by simp [hq])) (by simpa using h1) (by simpa using h2) ?_ (λ j x y hx hy => hv (j + 1) x y (by simpa using hx) (by simpa using hy)) t
    have := Eg (a := { tmps := tm, defers := [] }) hs (dst := some p) (λ d hd => by cases hd; show p < tm.size; rw [hn]; exact hp p (by simp)) (hv 0 v y rfl rfl)
    exact this
  | p :: ps, [], _, _, _, _, _, h1, _, _, _, _ => by simp at h1
  | p :: ps, _ :: _, [], _, _, _, _, _, h2, _, _, _ => by simp at h2
theorem OF : ∀ (l : List (Nat × Value)) (tm : Array Value), (l.foldl (λ tm (p, v) => tm.setIfInBounds p v) tm).size = tm.size
  | [], _ => rfl
  | (p, v) :: l, tm => by rw [List.foldl_cons, OF l]; simp
theorem ALL {A : Ann} {S : Susp} {n : Nat} {ps : Array Nat} {assign body : Code} {f : FuncId} (hlp : S.lp = λ st pe => { state := st, pending := pe, fn := f, tmps := S.tmps, params := ps, assign := assign, body := body, defers := (S.lp .ready none).defers })
    (hsz : S.tmps.size = n) (hps : ∀ p ∈ ps.toList, p < n)
    (ha : ∀ (gs : List Nat) (c : Ctx) (Q : Exit -> AState -> Prop) (σ : AState), c.n = n -> vc P A assign true gs Q σ -> CodeE P c assign Q σ) (hb : ∀ (gs : List Nat) (c : Ctx) (Q : Exit -> AState -> Prop) (σ : AState), c.n = n -> vc P A body true gs Q σ -> CodeE P c body Q σ) :
    Cw P S (λ as H' kn ks => if Nat.beq as.length ps.size then
              vc P A assign true (shf A.toAnnI assign H') (ZB (vc P A body true (shf A.toAnnI assign H') (λ e σ' => match e with
                | .normal => kn σ'.H
                | .ret => ks .ret σ'.H
                | .exit id => ks (.exit id) σ'.H
                | _ => False)) λ _ _ => False) ⟨A5 S.sl1 ps.toList as, H'⟩ else False) := by
  intro as H kn ks h B ι w vs hA hbase
  split at h
  case isFalse => exact h.elim
  rename_i hl
  have hl := Nat.eq_of_beq_eq_true hl
  have hl' : vs.size = ps.size := by rw [hA.1, hl]
  have hrec : ∀ m, S.lp (wU m) (m.map MX) = { S.lp .ready none with state := wU m, pending := m.map MX } := λ m => by rw [hlp]
  have hparams : (S.lp .ready none).params = ps := by rw [hlp]
  have hready : (S.lp .ready none).state = .ready := by rw [hlp]
  have hL0 : w.heap[S.l]? = some (.loop (S.lp .ready none)) := hbase.lp.here
  refine ⟨f, (ps.zip vs).foldl (λ tm (p, v) => tm.setIfInBounds p v) S.tmps, assign, body, ?_, ?_⟩
  · have := run_yield (P := P) (args := vs) hL0 (by rw [hparams]; exact hl')
    rw [this]
    have e1 : (S.lp .ready none).fn = f := by rw [hlp]
    have e2 : (S.lp .ready none).assign = assign := by rw [hlp]
    have e3 : (S.lp .ready none).body = body := by rw [hlp]
    have e4 : (S.lp .ready none).tmps = S.tmps := by rw [hlp]
    rw [e1, e2, e3, e4, hparams]
  · refine roundIn_of_wpIn (F := Ev none) (n := 0) trivial ?_
    -- the assignment
    have hRA : Rel ⟨B, ι, H, w, n, some S.l, false⟩ B ι ⟨A5 S.sl1 ps.toList as, H⟩ { tmps := (ps.zip vs).foldl (λ tm (p, v) => tm.setIfInBounds p v) S.tmps, defers := [] } w := by
      refine ⟨λ t => ?_, ?_, ⟨[], rfl, λ _ => rfl, List.nodup_nil, λ D hD => by cases hD⟩, Moved.refl hbase.mv.heap⟩
      · have := uE (n := n) ps.toList as vs.toList S.sl1 S.tmps hsz hps (by simpa using hl) (by simpa using hl') hbase.susp (λ j x y hx hy => hA.2 j x y hx (by simpa using hy)) t
        rw [<- Array.foldl_toList, Array.toList_zip]
        exact this
      · rw [<- Array.foldl_toList]; exact (OF _ _).trans hsz
    refine wpIn_mono (ha _ ⟨B, ι, H, w, n, some S.l, false⟩ _ _ rfl h B ι _ w hRA) λ e a1 w1 hq => ?_
    obtain ⟨B1, ι1, σ1, hq, hR1⟩ := hq
    cases e <;> try exact hq.elim
    have hq : vc P A body true (shf A.toAnnI assign H) _ σ1 := hq
    have hb1 := hbase.moved hR1.mv
    have hL1 : w1.heap[S.l]? = some (.loop (S.lp .ready none)) := hb1.lp.here
    refine ⟨_, run_beginRound hL1 hready, ?_⟩
    -- the record is busy
    have hH2 : HRel B1 ι1 σ1.H (w1.putObj S.l (.loop { S.lp .ready none with state := .busy })) := hR1.mv.heap.put hb1.lp (λ _ _ _ h => by cases h) _
    obtain ⟨Ds1, d1, d2, _⟩ := hR1.defers
    have hRB : Rel ⟨B1, ι1, σ1.H, w1.putObj S.l (.loop { S.lp .ready none with state := .busy }), n, some S.l, false⟩ B1 ι1 σ1 a1 (w1.putObj S.l (.loop { S.lp .ready none with state := .busy })) :=
      ⟨hR1.slots, hR1.size, ⟨[], by rw [d1, d2 rfl], λ _ => rfl, List.nodup_nil, λ D hD => by cases hD⟩, Moved.refl hH2⟩
    have hL2 : Quiet S.l (.loop { S.lp .ready none with state := .busy }) ι1 σ1.H (w1.putObj S.l (.loop { S.lp .ready none with state := .busy })) := hb1.lp.put_same _
    have hmv2 := hb1.mv.put hb1.lp (λ _ _ _ h => by cases h) hb1.lge (.loop { S.lp .ready none with state := .busy })
    refine wpIn_mono (hb _ ⟨B1, ι1, σ1.H, _, n, some S.l, false⟩ _ _ rfl hq B1 ι1 a1 _ hRB) λ e a2 w3 hq => ?_
    obtain ⟨B2, ι2, σ2, hq, hR2⟩ := hq
    have hL3 := hL2.moved hR2.mv
    have tr : ∀ a y, VRel B ι H.dom a y -> VRel B2 ι2 σ2.H.dom a y := λ a y hv => hR2.mv.vrel (hR1.mv.vrel hv)
    have fin : ∀ m, BaseI S m B2 ι2 σ2.H (w3.putObj S.l (.loop { S.lp .ready none with state := wU m, pending := m.map MX })) := λ m => by
      have m3 := hmv2.trans hR2.mv
      refine ⟨m3.put hL3 (λ _ _ _ h => by cases h) hbase.lge _, λ t => tr _ _ (hbase.susp t), λ D hD => ?_, hbase.lge, by rw [hrec]; exact hL3.put_same _⟩
      obtain ⟨q1, q2⟩ := hb1.marks D hD
      have hne : S.l ≠ D := λ he => by
        have := q2.here
        rw [<- he, hL1] at this
        cases this
      exact ⟨q1, ((q2.put_other hne).moved hR2.mv).put_other hne⟩
    have stop : ∀ (x : Exit) (jump : Code), MX x = jump -> ks x σ2.H -> ∃ v w', (Instr.endRound S.l (some jump)).run P w3 = .ok v w' /\ ∃ B' ι' H', (∀ a y, VRel B ι H.dom a y -> VRel B' ι' H'.dom a y) /\
        ((Ending.returned v = .returned (.bool true) /\ kn H' /\ BaseI S none B' ι' H' w') ∨ ∃ x, Ending.returned v = .returned (.bool false) /\ ks x H' /\ BaseI S (some x) B' ι' H' w') := λ x jump hj hk => by
      refine ⟨_, _, run_endRound (some jump) hL3.here, B2, ι2, σ2.H, tr, .inr ⟨x, rfl, hk, ?_⟩⟩
      have := fin (some x)
      simp only [wU, Option.map_some, hj] at this
      exact this
    cases e with
    | normal =>
      refine ⟨_, _, run_endRound none hL3.here, B2, ι2, σ2.H, tr, .inl ⟨rfl, hq, ?_⟩⟩
      exact fin none
    | ret => exact stop .ret .ret rfl hq
    | exit id => exact stop (.exit id) (.exit id) rfl hq
    | goto t => exact hq.elim
    | panic ch => exact hq.elim
    | outgrown => exact hq.elim
theorem Moved.put2 {b : Nat} {x : Obj} (m : Moved B ι H w B' ι' H' w') (hq : Quiet b x ι H w) (hx : ∀ c e fr, x ≠ .cells c e fr) (y : Obj) : Moved B ι H (w.putObj b y) B' ι' H' (w'.putObj b y) := by
  have hq' := hq.moved m
  refine ⟨m.bm, λ k c h => by rw [World.putObj_size]; exact m.bn k c h, m.im, m.heap.put hq' hx y, λ i o h => by rw [World.putObj_size]; exact m.own i o h, λ k hk hno => ?_, by rw [World.putObj_size, World.putObj_size]; exact m.size, ⟨m.calm.os, m.calm.tape, m.calm.output⟩⟩
  rw [World.putObj_size] at hk
  by_cases he : k = b
  · subst he
    rw [World.putObj_heap_same (Array.getElem?_eq_some_iff.1 hq'.here).1, World.putObj_heap_same hk]
  · rw [World.putObj_heap_other he, World.putObj_heap_other he]; exact m.frame k hk hno
theorem Moved.src {w0 : World} (m : Moved B ι H w B' ι' H' w') (hs : w0.heap.size = w.heap.size) (hh : ∀ k : Nat, w0.heap[k]? = w.heap[k]?) (hc : Calm w0 w) : Moved B ι H w0 B' ι' H' w' :=
  ⟨m.bm, λ k c h => by rw [hs]; exact m.bn k c h, m.im, m.heap, λ i o h => by rw [hs]; exact m.own i o h, λ k hk hno => by rw [hh]; exact m.frame k (by omega) hno, by rw [hs]; exact m.size, hc.trans m.calm⟩
theorem Ay : ∀ (l keep : List (Nat × HCell)), (keep.map (·.1)).Nodup -> (∀ x ∈ l, x ∈ keep) -> PW (QT keep) l
  | [], _, _, _ => trivial
  | (i, x) :: l, keep, hn, hl => by
    refine ⟨?_, Ay l keep hn λ y hy => hl y (by simp [hy])⟩
    obtain ⟨d, hd⟩ := nF (hl (i, x) (by simp))
    have hm := GI hd
    have := (Kz (ρ := λ i => i) (by simpa using hn) (hl (i, x) (by simp)) hm rfl).2
    simp only [QT, hd, Option.getD_some]
    exact this.symm
theorem AAB {A : Ann} {S : Susp} {n : Nat} {ps : Array Nat} {assign body : Code} {f : FuncId} (hlp : S.lp = λ st pe => { state := st, pending := pe, fn := f, tmps := S.tmps, params := ps, assign := assign, body := body, defers := (S.lp .ready none).defers })
    (hsz : S.tmps.size = n) (hps : ∀ p ∈ ps.toList, p < n)
    (ha : ∀ (gs : List Nat) (c : Ctx) (Q : Exit -> AState -> Prop) (σ : AState), c.n = n -> vc P A assign true gs Q σ -> CodeE P c assign Q σ) (hb : ∀ (gs : List Nat) (c : Ctx) (Q : Exit -> AState -> Prop) (σ : AState), c.n = n -> vc P A body true gs Q σ -> CodeE P c body Q σ)
    (R : Round) (hround : ∀ a : R.C.α, BG (R.C.pre a) -> (R.C.xs a).length = ps.size /\ (∀ t, LP (λ i => (DF (R.C.L a) i).isSome) (S.sl1 t) = true) /\
      vc P A assign true [0] (ZB (vc P A body true [0] (λ e σ' => match e with
                | .normal => CJ (IX ((R.C.L a).map (·.1)) [] [] ⟨[], R.C.keep a⟩ ⟨λ _ => .any, σ'.H⟩)
                | _ => False)) λ _ _ => False) ⟨A5 S.sl1 ps.toList (R.C.xs a), AK (R.C.L a)⟩) :
    Cw P S (λ as H' kn _ => AFN R as H' kn) := by
  intro as H kn ks h B ι w vs hA hbase
  unfold AFN at h
  obtain ⟨a, h⟩ := h
  split at h
  case isFalse => exact h.elim
  rename_i hok
  simp only [Bool.and_eq_true] at hok
  obtain ⟨hemb, hfr⟩ := hok
  split at h
  case h_2 => exact h.elim
  rename_i p hc
  obtain ⟨hp, hkn⟩ := DU h
  obtain ⟨hp1, hp2⟩ := BD hp
  have hc' : CJ (WW (EL noF (λ i => i) (λ i => (DF (R.C.L a) i).isSome) (R.C.xs a) as) (aX noF (λ i => i) (λ i => (DF (R.C.L a) i).isSome) H (R.C.L a))) := by rw [hc]; exact hp1
  obtain ⟨h1, h2⟩ := CM hc'
  obtain ⟨r1, r2, r3⟩ := hround a hp2
  have hF : ZP B B ι noF := ⟨λ _ _ h => h, λ id k m get h => by cases h⟩
  have hdom : ∀ i, (DF (R.C.L a) i).isSome = true -> (AK (R.C.L a)).dom i := λ i hi => by
    unfold Heap.dom AK
    obtain ⟨o, ho⟩ := Option.isSome_iff_exists.1 hi
    rw [ho]; simp
  have hobj : ∀ i o, DF (R.C.L a) i = some o -> (∃ o', H i = .live o') /\ ORel B ι (AK (R.C.L a)).dom (ι i).cap o (w.heap[(ι i).b]?) := λ i o ho => by
    obtain ⟨o', h3, h4⟩ := Lo h2 i o (PE ho)
    exact ⟨⟨o', h3⟩, PQ (ι := ι) (ρ := λ i => i) hF hdom h4 (hbase.mv.heap.obj _ _ h3)⟩
  have hfresh : ∀ i, 0 <= i -> i < 0 + 16 -> H i = .none := λ i _ hi => by
    simp only [LY, List.all_eq_true, List.mem_range] at hfr
    have := MK (hfr i (by omega))
    simpa using this
  obtain ⟨hHL, fr⟩ := X3 (ι := ι) (λ i => i) 0 hemb H hfresh hbase.mv.heap hobj
  have hl' : vs.size = ps.size := by rw [hA.1, <- FO h1, r1]
  have hargs : ∀ (j : Nat) (x : AVal) (y : Value), (R.C.xs a)[j]? = some x -> vs[j]? = some y -> VRel B ι (AK (R.C.L a)).dom x y := λ j x y hx hy => by
    obtain ⟨x', hx', hs⟩ := FY h1 hx
    exact LF (ι := ι) (ρ := λ i => i) hF hdom _ _ _ hs (hA.2 j _ y hx' hy)
  have hparams : (S.lp .ready none).params = ps := by rw [hlp]
  have hready : (S.lp .ready none).state = .ready := by rw [hlp]
  have hL0 : w.heap[S.l]? = some (.loop (S.lp .ready none)) := hbase.lp.here
  have hQ0 : Quiet S.l (.loop (S.lp .ready none)) ι (AK (R.C.L a)) w := ⟨hL0, λ i o hi => by
    have hg : DF (R.C.L a) i = some o := by
      unfold AK at hi
      cases hq : DF (R.C.L a) i with
      | none => rw [hq] at hi; cases hi
      | some o' => rw [hq] at hi; cases hi; rfl
    obtain ⟨⟨o', h3⟩, _⟩ := hobj i o hg
    exact hbase.lp.sep i o' h3⟩
  refine ⟨f, (ps.zip vs).foldl (λ tm (p, v) => tm.setIfInBounds p v) S.tmps, assign, body, ?_, ?_⟩
  · have := run_yield (P := P) (args := vs) hL0 (by rw [hparams]; exact hl')
    rw [this]
    have e1 : (S.lp .ready none).fn = f := by rw [hlp]
    have e2 : (S.lp .ready none).assign = assign := by rw [hlp]
    have e3 : (S.lp .ready none).body = body := by rw [hlp]
    have e4 : (S.lp .ready none).tmps = S.tmps := by rw [hlp]
    rw [e1, e2, e3, e4, hparams]
  · refine roundIn_of_wpIn (F := Ev none) (n := 0) trivial ?_
    have hRA : Rel ⟨B, ι, AK (R.C.L a), w, n, some S.l, false⟩ B ι ⟨A5 S.sl1 ps.toList (R.C.xs a), AK (R.C.L a)⟩ { tmps := (ps.zip vs).foldl (λ tm (p, v) => tm.setIfInBounds p v) S.tmps, defers := [] } w := by
      refine ⟨λ t => ?_, ?_, ⟨[], rfl, λ _ => rfl, List.nodup_nil, λ D hD => by cases hD⟩, Moved.refl hHL⟩
      · have := uE (n := n) ps.toList (R.C.xs a) vs.toList S.sl1 S.tmps hsz hps (by simpa using r1) (by simpa using hl') (λ t => VRel.keep (p := λ i => (DF (R.C.L a) i).isSome) (λ i hi => ⟨hdom i hi, rfl⟩) _ _ (r2 t) (hbase.susp t)) (λ j x y hx hy => hargs j x y hx (by simpa using hy)) t
        rw [<- Array.foldl_toList, Array.toList_zip]
        exact this
      · rw [<- Array.foldl_toList]; exact (OF _ _).trans hsz
    refine wpIn_mono (ha _ ⟨B, ι, AK (R.C.L a), w, n, some S.l, false⟩ _ _ rfl r3 B ι _ w hRA) λ e a1 w1 hq => ?_
    obtain ⟨B1, ι1, σ1, hq, hR1⟩ := hq
    cases e <;> try exact hq.elim
    have hQ1 := hQ0.moved hR1.mv
    have hL1 : w1.heap[S.l]? = some (.loop (S.lp .ready none)) := hQ1.here
    refine ⟨_, run_beginRound hL1 hready, ?_⟩
    have hH2 : HRel B1 ι1 σ1.H (w1.putObj S.l (.loop { S.lp .ready none with state := .busy })) := hR1.mv.heap.put hQ1 (λ _ _ _ h => by cases h) _
    obtain ⟨Ds1, d1, d2, _⟩ := hR1.defers
    have hRB : Rel ⟨B1, ι1, σ1.H, w1.putObj S.l (.loop { S.lp .ready none with state := .busy }), n, some S.l, false⟩ B1 ι1 σ1 a1 (w1.putObj S.l (.loop { S.lp .ready none with state := .busy })) :=
      ⟨hR1.slots, hR1.size, ⟨[], by rw [d1, d2 rfl], λ _ => rfl, List.nodup_nil, λ D hD => by cases hD⟩, Moved.refl hH2⟩
    have hQ2 : Quiet S.l (.loop { S.lp .ready none with state := .busy }) ι1 σ1.H (w1.putObj S.l (.loop { S.lp .ready none with state := .busy })) := hQ1.put_same _
    have m1 := hR1.mv.put2 hQ0 (λ _ _ _ h => by cases h) (.loop { S.lp .ready none with state := .busy })
    refine wpIn_mono (hb _ ⟨B1, ι1, σ1.H, _, n, some S.l, false⟩ _ _ rfl hq B1 ι1 a1 _ hRB) λ e a2 w3 hq => ?_
    obtain ⟨B2, ι2, σ2, hq, hR2⟩ := hq
    cases e <;> try exact hq.elim
    have hL3 := hQ2.moved hR2.mv
    have m3 := (m1.trans hR2.mv).put2 (hQ0.put_same _) (λ _ _ _ h => by cases h) (.loop { S.lp .ready none with state := .ready, pending := none })
    have hlt : S.l < w.heap.size := (Array.getElem?_eq_some_iff.1 hL0).1
    have m4 := m3.src (w0 := w) (by simp only [World.putObj_size]) λ k => by
      by_cases he : k = S.l
      · subst he
        rw [World.putObj_heap_same (by simp only [World.putObj_size]; exact hlt), hL0]
        rw [hlp]
      · rw [World.putObj_heap_other he, World.putObj_heap_other he]
    obtain ⟨B3, q1, q2, _⟩ := Moved.subF (λ i hi => by
      unfold Heap.dom AK at hi
      cases hg : DF (R.C.L a) i with
      | none => exact absurd (by simp only [hg]) hi
      | some o => exact List.mem_map.2 ⟨_, PE hg, rfl⟩) hq (m4 ⟨rfl, rfl, rfl⟩)
    have hnd : nodup ((R.C.keep a).map (·.1)) = true := by
      simp only [fZ, Bool.and_eq_true] at hemb
      exact hemb.2
    obtain ⟨B4, ι4, M, _⟩ := fr (.bool true) _ ⟨QT (R.C.keep a), Ay _ _ (GG hnd) (λ _ h => h), B3, _, q1, .d (.v _)⟩
    refine ⟨_, _, run_endRound none hL3.here, B4, ι4, _, λ b y hv => M.vrel hv, .inl ⟨rfl, hkn, ?_⟩⟩
    exact hbase.moved M
theorem Moved.extra (h : HRel B ι H w) (o : Obj) : Moved B ι H w B ι H (w.alloc o) :=
  ⟨λ _ _ h => h, λ _ _ h => .inl h, λ _ h => ⟨h, rfl⟩, ⟨λ i x hi => by rw [GJ (IV h hi)]; exact h.obj i x hi, h.inj, h.sep, λ b c hb => by
    obtain ⟨e, fr, hq⟩ := h.imm b c hb
    exact ⟨e, fr, by rw [GJ (Array.getElem?_eq_some_iff.1 hq).1]; exact hq⟩⟩, λ i o h => .inl ⟨i, o, h, rfl⟩, λ b hb _ => GJ hb, by simp, ⟨rfl, rfl, rfl⟩⟩
def bD (P : Program) (A : Ann) : Prop := ∀ gs g x, A.iterAt gs g = some x -> wE P x.ann.Γ /\ zP P g /\ P.funcs[g]? = some x.fn /\ x.fn.body = some x.code
theorem AMO {A : Ann} (hΓ : wE P A.Γ) (hI : bD P A) (hm : P.follows .mixedOrders = true) : ∀ (code : Code) (b : Bool) (gs : List Nat) (Q : Exit -> AState -> Prop) (σ : AState) (c : Ctx), c.n = A.n -> (b = false -> c.rd = none /\ c.mks = true /\ ∀ i, c.H0.dom i -> i ∈ A.E) -> vc P A code b gs Q σ -> CodeE P c code Q σ := by
  intro code
  induction code with
  | skip => intro b gs Q σ c _ _ h; exact .skip h
  | label l => intro b gs Q σ c _ _ h; exact .label h
  | exit id => intro b gs Q σ c _ _ h; exact .exit h
  | ret => intro b gs Q σ c _ _ h; exact .ret h
  | seq x y ihx ihy =>
    intro b gs Q σ c hn hc h
    simp only [vc] at h
    split at h
    · rename_i L hL
      have hE := (hc rfl).2.2
      obtain ⟨h0, h3⟩ := h
      refine .seq (CodeE.mono (ihx false gs _ σ c hn hc h0) λ e σ' hq => ?_)
      cases e with
      | normal =>
        obtain ⟨s, hs, a, h1, h2⟩ := IH hq
        exact CodeE.subF hE h1 (ihy false _ Q _ c hn hc (Dd h3 s hs a h2))
      | _ => exact hq
    · refine .seq (CodeE.mono (ihx _ gs _ σ c hn hc h) λ e σ' hq => ?_)
      cases e with
      | normal => exact ihy _ gs Q σ' c hn hc hq
      | _ => exact hq
  | cond x t e iht ihe =>
    intro b gs Q σ c hn hc h
    simp only [vc] at h
    split at h
    · rename_i v hb
      rw [BF] at h; exact .cond hb (λ hb => iht b gs Q σ c hn hc (h.1 hb)) λ hb => ihe b gs Q σ c hn hc (h.2 hb)
    · rename_i hb; exact .condAny hb (iht b gs Q σ c hn hc h.1) (ihe b gs Q σ c hn hc h.2)
    · exact h.elim
  | block id x ih => intro b gs Q σ c hn hc h; exact .block (ih b gs _ σ c hn hc h)
  | scope x ih => intro b gs Q σ c hn hc h; exact .noGoto (ih b gs _ σ c hn hc h)
  | loop x ih =>
    intro b gs Q σ c hn hc h
    simp only [vc] at h
    split at h
    · rename_i k hk
      refine .loop (λ k σ => unrE (λ t K σ' => vc P A x b (t :: gs) (ZB K Q) σ') k σ) (k + 1) h ?_
      intro k σ' h'
      cases k with
      | zero => exact h'.elim
      | succ k =>
        refine CodeE.mono (ih b _ _ _ c hn hc h') λ e σ'' hq => ?_
        cases e with
        | normal => exact ⟨k, Nat.lt_succ_self k, hq⟩
        | _ => exact hq
    split at h
    · rename_i L hL
      have hE := (hc rfl).2.2
      obtain ⟨h0, h3⟩ := h
      obtain ⟨s, hs, a, h1, h2⟩ := IH h0
      refine .loop (λ k σ => ∃ l fz s a, s ∈ L /\ CJ (IX A.E fz l (s.T a) σ) /\ s.inv a /\ s.meas a = k) (s.meas a) ⟨_, _, s, a, hs, h1, h2, rfl⟩ ?_
      rintro k σ' ⟨l, fz, s, a, hs, h4, h5, rfl⟩
      refine CodeE.subF hE h4 (CodeE.mono (ih false _ _ _ c hn hc (Dd h3 s hs a h5)) λ e σ'' hq => ?_)
      cases e with
      | normal => obtain ⟨s', q0, a', q1, q2, q3⟩ := IH hq; exact ⟨s'.meas a', q3, _, _, s', a', q0, q1, q2, rfl⟩
      | _ => exact hq
    · exact h.elim
  | region id ops draw =>
    intro b gs Q σ c hn hc h
    simp only [vc] at h
    rw [<- hn] at h
    split at h
    case h_2 =>
      split at h
      · rename_i hdb
        simp only [Bool.and_eq_true, Bool.not_eq_true'] at hdb
        obtain ⟨rfl, rfl⟩ := hdb
        exact wH hΓ h
      · split at h
        · rename_i hdb
          simp only [Bool.and_eq_true, Bool.not_eq_true'] at hdb
          obtain ⟨rfl, rfl⟩ := hdb
          exact wJ hΓ hm h
        · exact h.elim
    have := Fa (Q := λ e σ' => e = .normal /\ Ew (if b then none else A.pack id) A.E σ' (Q .normal)) (id := id) hΓ hm (Ye (λ σ' hk => ⟨rfl, hk⟩) h)
    intro B ι a w hR
    refine Code.wpIn_mono (λ e a' w' hq => ?_) (this B ι a w hR)
    obtain ⟨B', ι', σ', ⟨rfl, hp⟩, hR'⟩ := hq
    unfold Ew at hp
    split at hp
    · exact ⟨B', ι', σ', hp, hR'⟩
    · rename_i p hpk
      split at hp
      · rename_i hok
        obtain ⟨h1, h2⟩ := DU hp
        cases b with
        | true => simp at hpk
        | false =>
          obtain ⟨B2, hR2⟩ := hR'.pack (hc rfl).2.2 hok h1
          exact ⟨B2, ι', _, h2, hR2⟩
      · exact hp.elim
  | rangeFunc f ps assign body iha ihb =>
    intro b gs Q σ c hn hc h
    simp only [vc] at h
    split at h
    case h_2 => exact h.elim
    rename_i g caps hf
    obtain ⟨hrd, hmks, hE⟩ := hc rfl
    split at h
    case h_2 => exact h.elim
    rename_i x hx
    split at h
    case isFalse => exact h.elim
    rename_i hk
    simp only [Bool.and_eq_true, List.all_eq_true, DK, Nat.blt_eq] at hk
    obtain ⟨⟨⟨⟨⟨k1, k2⟩, k3⟩, k4⟩, k5⟩, k6⟩ := hk
    obtain ⟨hΓ2, hent, hfn, hbody⟩ := hI gs g x hx
    intro B ι a w hR
    rw [hrd]
    refine wpIn_rangeFunc (F := Ev none) (n := 0) λ fn _ => ?_
    have hfv := CS hR.slots f
    rw [hf] at hfv
    obtain ⟨lb, hlb, hcaps⟩ : ∃ lb : Array Value, a.eval f = .func (.func g) #[] lb /\ LB B ι σ.H.dom caps lb := by
      generalize a.eval f = v at hfv
      cases hfv with
      | fn h1 h2 h3 h4 =>
        rename_i xs ys
        have e1 : xs = #[] := by simpa using h1
        subst e1
        exact ⟨ys, rfl, h2, h4⟩
    obtain ⟨lp, hlp⟩ : ∃ lp : LoopState -> Option Code -> Loop, lp = λ st pe => { state := st, pending := pe, fn, tmps := a.tmps, params := ps, assign, body, defers := w.heap.size } := ⟨_, rfl⟩
    obtain ⟨W1, hW1⟩ : ∃ W1, (w.alloc (.deferred (some []))).alloc (.loop (lp .ready none)) = W1 := ⟨_, rfl⟩
    have m1 := Moved.extra hR.mv.heap (.deferred (some []))
    have m2 := Moved.extra m1.heap (.loop (lp .ready none))
    rw [hW1] at m2
    have m12 := m1.trans m2
    obtain ⟨Ds, d1, _, d2, d3⟩ := hR.defers
    have hL1 : W1.heap[w.heap.size + 1]? = some (.loop (lp .ready none)) := by
      rw [<- hW1]; have := KX (w := w.alloc (.deferred (some []))) (.loop (lp .ready none)); rwa [World.size_alloc] at this
    have hD1 : W1.heap[w.heap.size]? = some (.deferred (some [])) := by
      rw [<- hW1]; exact (GJ (by simp)).trans (KX _)
    have hlt : ∀ i o, σ.H i = .live o -> (ι i).b < w.heap.size := λ i o hi => IV hR.mv.heap hi
    have hDlt : ∀ D ∈ Ds, D < w.heap.size := λ D hD => (Array.getElem?_eq_some_iff.1 (d3 D hD).2.here).1
    let S : Susp := { c := c, sl1 := DV (x.live.map λ t => (t, σ.sl t)), tmps := a.tmps, Ds := w.heap.size :: Ds, l := w.heap.size + 1, lp := lp }
    have hbase : BaseI S none B ι σ.H W1 := by
      refine ⟨hR.mv.trans m12, λ t => ?_, λ D hD => ?_, Nat.le_trans hR.mv.size (Nat.le_succ _), hL1, λ i o hi => ?_⟩
      · rcases YZ (λ t => σ.sl t) x.live t with h1 | ⟨_, h1⟩
        · show VRel _ _ _ (DV _ t) _; rw [h1]; exact .any
        · show VRel _ _ _ (DV _ t) _; rw [h1]; exact hR.slots t
      · rcases List.mem_cons.1 hD with rfl | hD
        · exact ⟨hR.mv.size, hD1, λ i o hi => by have := hlt i o hi; omega⟩
        · exact ⟨(d3 D hD).1, (d3 D hD).2.moved m12⟩
      · have := hlt i o hi
        show (ι i).b ≠ w.heap.size + 1
        omega
    have hS : ∀ t, LP (λ i => x.ann.E.contains i) (S.sl1 t) = true := λ t => by
      rcases YZ (λ t => σ.sl t) x.live t with h1 | ⟨h0, h1⟩
      · show LP _ (DV _ t) = true; rw [h1]; rfl
      · show LP _ (DV _ t) = true; rw [h1]; exact k1 t h0
    obtain ⟨yk, hyield, h⟩ : ∃ yk : YK, Cw P S yk /\ vcI P x.ann (w.heap.size + 1) yk x.code ((w.heap.size + 1) :: gs) (λ e m σ' => match e with
              | .normal | .ret => AJD Q ⟨DV (x.live.map λ t => (t, σ.sl t)), σ'.H⟩ m
              | _ => False) none ⟨Gv (.fn (.yield (w.heap.size + 1)) [] [] :: caps), σ.H⟩ := by
      have hd : S.lp = λ st pe => { state := st, pending := pe, fn := fn, tmps := S.tmps, params := ps, assign := assign, body := body, defers := (S.lp .ready none).defers } := by
        have hd : (S.lp .ready none).defers = w.heap.size := by show (lp .ready none).defers = _; rw [hlp]
        rw [hd]; exact hlp
      have hz : S.tmps.size = A.n := by show a.tmps.size = _; rw [hR.size, hn]
      cases hround : x.round with
      | none =>
        simp only [hround] at h
        exact ⟨_, ALL hd hz (λ p hp => k5 p hp) (λ gs c' Q' σ' h1 h2 => iha true gs Q' σ' c' h1 (λ h => by cases h) h2) (λ gs c' Q' σ' h1 h2 => ihb true gs Q' σ' c' h1 (λ h => by cases h) h2), h _⟩
      | some R =>
        simp only [hround] at h
        obtain ⟨h0, h⟩ := h
        refine ⟨_, AAB hd hz (λ p hp => k5 p hp) (λ gs c' Q' σ' h1 h2 => iha true gs Q' σ' c' h1 (λ h => by cases h) h2) (λ gs c' Q' σ' h1 h2 => ihb true gs Q' σ' c' h1 (λ h => by cases h) h2) R (λ a' ha' => ?_), h _⟩
        obtain ⟨q1, q2⟩ := h0 a' ha'
        simp only [Bool.and_eq_true, DK, List.all_eq_true] at q1
        refine ⟨q1.1, λ t => ?_, q2⟩
        rcases YZ (λ t => σ.sl t) x.live t with h1 | ⟨h0, h1⟩
        · show LP _ (DV _ t) = true; rw [h1]; rfl
        · show LP _ (DV _ t) = true; rw [h1]; exact q1.2 t h0
    have hargs : LB B ι σ.H.dom (.fn (.yield (w.heap.size + 1)) [] [] :: caps) (#[.func (.yield (w.heap.size + 1)) #[] #[]] ++ lb) := by
      refine ⟨by simp [hcaps.1]; omega, λ j y v hy hv => ?_⟩
      cases j with
      | zero =>
        rw [Array.getElem?_append_left (by simp)] at hv
        simp at hy hv
        subst hy; subst hv
        exact .fn rfl rfl (λ j x y hx _ => by simp at hx) (λ j x y hx _ => by simp at hx)
      | succ j =>
        rw [Array.getElem?_append_right (by simp)] at hv
        exact hcaps.2 j y v (by simpa using hy) (by simpa using hv)
    have hst := xU (mk := false) (n := x.fn.ntmps) hargs (by simp only [List.length_cons]; exact k4) m12.heap
    have hRI : RelI S x.fn.ntmps none B ι ⟨Gv (.fn (.yield (w.heap.size + 1)) [] [] :: caps), σ.H⟩ { tmps := (#[.func (.yield (w.heap.size + 1)) #[] #[]] ++ lb) ++ Array.replicate (x.fn.ntmps - (#[Value.func (.yield (w.heap.size + 1)) #[] #[]] ++ lb).size) undef, defers := [] } W1 :=
      ⟨hst.slots, hst.size, rfl, hbase⟩
    refine ⟨w.heap.size + 1, [{ target := .collected w.heap.size, args := #[] }], W1, { target := .fn (.func g) lb, args := #[.func (.yield (w.heap.size + 1)) #[] #[]] }, W1, g,
      #[.func (.yield (w.heap.size + 1)) #[] #[]] ++ lb, W1, ?_, ?_, λ _ _ => trivial, ?_, (λ h => by cases h), ?_⟩
    · rw [<- hW1, hlp]; exact run_enterLoop_outer _ _ _ _ _
    · simp only [resolve, hlb]
      simp [go_sem]
    · simp [invoke, go_sem, hent _ _]
    · refine callsIn_of_wp_marks (F := Ev none) hfn hbody trivial ?_
      have hcode := AJR (S := S) (n := x.fn.ntmps) hΓ2 hm hyield k3 (λ i hi => by simpa using k2 i (hE i hi)) hS x.code ((w.heap.size + 1) :: gs) _ none _ h
      refine wpIn_mono (hcode B ι _ W1 hRI) λ e a' w' hq => ?_
      obtain ⟨B', ι', m', σ', hq, hR'⟩ := hq
      have fin : AJD Q ⟨S.sl1, σ'.H⟩ m' -> LeavesInM (Ev none) 0 P x.fn a'.tmps (rangePost (Ev none) 0 P (w.heap.size + 1) (λ e a' w' => ∃ B' ι' σ', Q e σ' /\ Rel c B' ι' σ' a' w') { a with defers := [{ target := .collected w.heap.size, args := #[] }] ++ a.defers }) a'.defers .returning w' := λ hq => by
        rw [hR'.nodef]
        have hres : x.fn.results = #[] := by simpa using k6
        refine ⟨.tuple #[], by rw [pA, hres]; simp, ?_⟩
        have hL := hR'.base.lp
        have hpend : (S.lp (wU m') (m'.map MX)).pending = m'.map MX := by show (lp (wU m') (m'.map MX)).pending = _; rw [hlp]
        obtain ⟨W4, hend, o4, hW4⟩ : ∃ W4, (Instr.endLoop (w.heap.size + 1)).run P w' = .ok (m'.map MX) W4 /\ ∃ o, W4 = w'.putObj (w.heap.size + 1) (.loop o) := by
          have h5 := run_endLoop (P := P) hL.here (by show (lp (wU m') (m'.map MX)).state ≠ _; rw [hlp]; cases m' <;> simp [wU])
          rw [hpend] at h5
          exact ⟨_, h5, _, rfl⟩
        refine ⟨_, _, hend, ?_⟩
        have hRel : Rel c B' ι' ⟨S.sl1, σ'.H⟩ { a with defers := [{ target := .collected w.heap.size, args := #[] }] ++ a.defers } W4 := by
          subst hW4
          refine ⟨hR'.base.susp, hR.size, ⟨w.heap.size :: Ds, by simp [zY, d1], (λ h => by rw [hmks] at h; cases h), List.nodup_cons.2 ⟨λ hm => by have := hDlt _ hm; omega, d2⟩, λ D hD => ?_⟩, hR'.base.mv.put hL (λ _ _ _ h => by cases h) hR'.base.lge _⟩
          obtain ⟨q1, q2⟩ := hR'.base.marks D hD
          refine ⟨q1, q2.put_other λ he => ?_⟩
          have h1 := q2.here
          rw [<- he] at h1
          have h2 := hL.here
          rw [show S.l = w.heap.size + 1 from rfl, h1] at h2
          cases h2
        cases m' with
        | none => exact ⟨B', ι', _, hq, hRel⟩
        | some y =>
          cases y with
          | ret => exact wpIn_ret ⟨B', ι', _, hq, hRel⟩
          | exit id => exact wpIn_exit ⟨B', ι', _, hq, hRel⟩
          | normal => exact hq.elim
          | goto l => exact hq.elim
          | panic ch => exact hq.elim
          | outgrown => exact hq.elim
      cases e with
      | normal => exact fin hq
      | ret => exact fin hq
      | exit id => exact hq.elim
      | goto l => exact hq.elim
      | panic ch => exact hq.elim
      | outgrown => exact hq.elim
  | goto => intro b gs Q σ c _ _ h; exact h.elim
  | refuse => intro b gs Q σ c _ _ h; exact h.elim
def resC (P : Program) (fn : Func) (σ : AState) (K : AVal -> Option (List Prop)) : Prop := match cD P σ fn.results.toList with
  | some ([a], p) => AGW (some p) (CJ (K a))
  | some (as, p) => AGW (some p) (CJ (K (xQ as)))
  | none => False
theorem AJI {fn : Func} {K : AVal -> Option (List Prop)} (h : resC P fn σ K) : resP P fn σ λ v => CJ (K v) := by
  unfold resC at h
  unfold resP
  split at h
  · rename_i a p hr; rw [hr]; exact Po h
  · rename_i as p hne hr
    have := Po h
    split
    · rename_i hr'; rw [hr] at hr'; cases hr'; exact (hne _ rfl).elim
    · rename_i hr'; rw [hr] at hr'; cases hr'; exact this
    · rename_i hr'; rw [hr] at hr'; cases hr'
  · exact h.elim
def BB (P : Program) (A : Ann) (fn : Func) (code : Code) (as : List AVal) (H : Heap) (val : AVal) (keep : List (Nat × HCell)) (ren : List (Nat × Nat)) (fz : List Nat) : Prop :=
  vc P A code false [] (λ e σ' => match e with
    | .normal | .ret => resC P fn σ' λ v => IX A.E fz ren ⟨[(0, val)], keep⟩ ⟨λ _ => v, σ'.H⟩
    | _ => False) ⟨Gv as, H⟩
theorem Eu : ∀ (l keep : List (Nat × HCell)), (keep.map (·.1)).Nodup -> (∀ x ∈ l, x ∈ keep) -> PW (QT keep) l
  | [], _, _, _ => trivial
  | (i, x) :: l, keep, hn, hl => by
    refine ⟨?_, Eu l keep hn λ y hy => hl y (by simp [hy])⟩
    obtain ⟨d, hd⟩ := nF (hl (i, x) (by simp))
    have hm := GI hd
    have := (Kz (ρ := λ i => i) (by simpa using hn) (hl (i, x) (by simp)) hm rfl).2
    simp only [QT, hd, Option.getD_some]
    exact this.symm
theorem FnT.of_vc {A : Ann} (hΓ : wE P A.Γ) (hI : bD P A) (hm : P.follows .mixedOrders = true) {g : FuncId} {as : List AVal} {L : List (Nat × AObj)} {val : AVal} {keep : List (Nat × HCell)} {ren : List (Nat × Nat)} {fz : List Nat} {fn : Func} {code : Code}
    (hf : P.funcs[g]? = some fn) (hname : (fn.name == "runtime.NumGoroutine") = false) (hb : fn.body = some code) (hn : A.n = fn.ntmps /\ as.length <= fn.ntmps) (hE : A.E = L.map (·.1)) (hk : nodup (keep.map (·.1)) = true)
    (h : BB P A fn code as (AK L) val keep ren fz) : FnT P g as (AK L) val keep := by
  refine ⟨xY hf hname hb, λ B ι w vs ha hH => ?_⟩
  refine A6 hf hb ?_
  have hE' : ∀ i, (AK L).dom i -> i ∈ A.E := λ i hi => by
    rw [hE]
    unfold Heap.dom AK at hi
    cases hg : DF L i with
    | none => exact absurd (by simp only [hg]) hi
    | some o => exact List.mem_map.2 ⟨_, PE hg, rfl⟩
  have hc := AMO hΓ hI hm code false [] _ _ ⟨B, ι, AK L, w, fn.ntmps, none, true⟩ hn.1.symm (λ _ => ⟨rfl, rfl, hE'⟩) h B ι _ w (xU ha hn.2 hH)
  refine Code.wpIn_mono (λ e a w' hq => ?_) hc
  obtain ⟨B', ι', σ', hr, hR⟩ := hq
  have fin : (resC P fn σ' λ v => IX A.E fz ren ⟨[(0, val)], keep⟩ ⟨λ _ => v, σ'.H⟩) -> LeavesInM Fence.wide 0 P fn a.tmps (λ e w' => ∃ v H', e = .returned v /\ PW H' keep /\ ES B ι (AK L) w H' val v w') a.defers .returning w' := λ hr => by
    refine Y6 hR (AJI hr) λ w2 v val' m2 h2 h3 => ?_
    obtain ⟨B2, q1, q2, _⟩ := Moved.subF hE' h2 m2
    refine ⟨v, QT keep, rfl, Eu _ _ (GG hk) (λ _ h => h), B2, _, q1, ?_⟩
    have := q2 0 v h3
    simpa [DV] using this
  cases e with
  | normal => exact fin hr
  | ret => exact fin hr
  | _ => exact hr.elim
attribute [irreducible] BB
end Go.Sym
