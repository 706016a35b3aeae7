/- Package balance: corrections and levels: what is returned is right, and nothing is better. -/
import Derived.Test.YtonddbmhljelgaaBalT14
set_option linter.unusedVariables false
set_option linter.unusedSimpArgs false
namespace Go.Bal
open Go
variable {N : NetL} {T : TruthL}
theorem Kk (h : AD N = 0) : ∃ π, Fit (AA N) π 46000000 /\ (∀ v : Nat, v < 10 -> EU v (AA N).all = 0) /\ Alike (AQ N) (AA N) /\ (AT N).isSome = true := by
 have hg := DD h
 have hl := Cv hg
 have h8 := hg.g8
 have h14 := hg.r14
 have hlen := BV N
 have h0 : CW (AQ N) <= 2 * 1000000 * (AQ N).all.length := SV (by omega) λ w hw => by
  obtain ⟨i, hi, rfl⟩ := NR hw
  have := HF hg hi
  omega
 have hf : Fit (AQ N) (λ _ => 0) 46000000 := ⟨hl, λ i hi => by have := (HF hg hi).1; omega, λ i hi => by have := HF hg hi; omega, λ i hi => .inl ⟨by omega, (HF hg hi).2.1, (HF hg hi).2.2⟩⟩
 have hfu : (3000000000 : Int) < fuel := by unfold fuel; decide
 obtain ⟨d', π, h1, h2, h3, h4⟩ := PA (by omega) fuel (AQ N) _ hf (by omega)
 obtain ⟨hs, _⟩ := DE h
 have he := (WA hs).1
 have h1 : BY (AQ N) = some d' := h1
 rw [h1] at he
 cases he
 exact ⟨π, h2, (ZT h2.lay.ok (B := 3000000000) (by omega) λ i hi => (h2.small (by omega) hi).now).1 h3, h4, hs⟩
theorem Lf (h : AD N = 0) {i : Nat} (hi : i < (AA N).all.length) : -46000000 <= (gD (AA N).all i).now /\ (gD (AA N).all i).now <= 46000000 := by
 obtain ⟨π, hf, _⟩ := Kk h
 have := hf.now i hi
 have := II (AA N)
 omega
def MA (N : NetL) : TruthL := AP (AA N)
theorem UI (h : AD N = 0) (h1 : T.f.length = N.r.length) (h2 : T.t.length = N.g.length) (hT : LJ T) : XO N T = 0 := by
 have a1 : HN (λ i => GD (gD T.f i) (-100000000) 100000000) T.f.length = true := JQ.2 λ i hi => IH.2 (hT.1 i hi)
 have a2 : HN (λ i => GD (gD T.t i) (-100000000) 100000000) T.t.length = true := JQ.2 λ i hi => IH.2 (hT.2 i hi)
 unfold XO
 rw [if_pos h, if_pos ⟨h1, h2⟩, a1, a2]; rfl
theorem OH (h : XO N T = 0) : AD N = 0 /\ T.f.length = N.r.length /\ T.t.length = N.g.length /\ LJ T := by
 obtain ⟨a, ⟨b, c⟩, d, e⟩ := Lh h
 exact ⟨a, b, c, d, e⟩
theorem Gd (h : AD N = 0) {d : Desk} (hl : Alike (AQ N) d) (hb : ∀ i, i < d.all.length -> -100000000 <= (gD d.all i).now /\ (gD d.all i).now <= 100000000) (hz : ∀ v : Nat, v < 10 -> EU v d.all = 0) :
  XO N (AP d) = 0 /\ XU N (AP d) = [] /\ IJ N (AP d) = LX d.all := by
 have hg := DD h
 have hnR : d.nR = N.r.length := hl.nR
 have hout : d.out = N.g.length := hl.out
 have hlen : d.all.length = N.r.length + N.g.length := (Dq hl).1
 have l1 : (AP d).f.length = N.r.length := by rw [LF, hnR]
 have l2 : (AP d).t.length = N.g.length := by rw [KY, hout]
 have hT : LJ (AP d) := ⟨λ i hi => by rw [Az (by omega)]; exact hb i (by omega), λ i hi => by rw [ZL (by omega)]; exact hb _ (by omega)⟩
 refine ⟨UI h l1 l2 hT, (Ec hg.w l1 l2 hT).2 ?_, ?_⟩
 ·rw [LN hl]; exact hz
 ·rw [UN hg.w l1 l2 hT, LN hl]
theorem XZ (h : AD N = 0) : XO N (MA N) = 0 /\ XU N (MA N) = [] /\ IJ N (MA N) = CJ N := by
 obtain ⟨π, hf, hz, hl, _⟩ := Kk h
 obtain ⟨a, b, c⟩ := Gd h hl (λ i hi => by have := Lf h hi; omega) hz
 exact ⟨a, b, c.trans (YL h).symm⟩
theorem VT (ha : XO N T = 0) (hu : XU N T = []) : CJ N <= IJ N T := by
 obtain ⟨h, l1, l2, hT⟩ := OH ha
 have hg := DD h
 obtain ⟨_, π, hs⟩ := DE h
 rw [UN hg.w l1 l2 hT, YL h]
 have hl : Alike (AA N) (CD N T) := by
  have a := hs.like
  have b : Alike (AQ N) (CD N T) := ND
  exact ⟨b.out.trans a.out.symm, b.nR.trans a.nR.symm, b.len.trans a.len.symm, λ i hi => by
   obtain ⟨a1, a2, a3⟩ := a.way i (by rw [<- a.len]; exact hi)
   obtain ⟨b1, b2, b3⟩ := b.way i (by rw [<- a.len]; exact hi)
   exact ⟨b1.trans a1.symm, b2.trans a2.symm, b3.trans a3.symm⟩⟩
 exact (Bv hs hl ((Ec hg.w l1 l2 hT).1 hu)).1
end Go.Bal

namespace Go.Bal
open Go
variable {N : NetL} {T : TruthL}
structure Can (N : NetL) (T : TruthL) : Prop where
 ask : XO N T = 0
 unb : XU N T = []
 cost : IJ N T = 0
theorem Jb {d d1 d2 : Desk} (a : Alike d d1) (b : Alike d d2) : Alike d1 d2 := ⟨b.out.trans a.out.symm, b.nR.trans a.nR.symm, b.len.trans a.len.symm, λ i hi => by
 obtain ⟨a1, a2, a3⟩ := a.way i (by rw [<- a.len]; exact hi)
 obtain ⟨b1, b2, b3⟩ := b.way i (by rw [<- a.len]; exact hi)
 exact ⟨b1.trans a1.symm, b2.trans a2.symm, b3.trans a3.symm⟩⟩
theorem Iq (hg : Good N) {d : Desk} (hl : Alike (AQ N) d) : ∀ i, i < d.all.length -> -1000000 <= (gD d.all i).sp.lo /\ (gD d.all i).sp.lo <= (gD d.all i).sp.hi /\ (gD d.all i).sp.hi <= 1000000 := λ i hi => by
 have h := (HF hg (i := i) (by rw [<- hl.len]; exact hi)).1
 rw [<- (hl.way i (by rw [<- hl.len]; exact hi)).2.2] at h
 exact h
theorem Ph {l : List Way} (h : LX l = 0) {i : Nat} (hi : i < l.length) : (gD l i).sp.lo <= (gD l i).now /\ (gD l i).now <= (gD l i).sp.hi := by
 have := WC (λ w _ => by unfold FY; omega) h (gD l i) (Dg hi)
 unfold FY at this
 omega
theorem Nt {l : List Way} (h : ∀ i, i < l.length -> (gD l i).sp.lo <= (gD l i).now /\ (gD l i).now <= (gD l i).sp.hi) : LX l = 0 := by
 unfold LX
 rw [YR (g := λ _ => 0) λ w hw => ?_]
 ·rw [NA, KB]
 ·obtain ⟨i, hi, rfl⟩ := NR hw
  have := h i hi
  unfold FY; omega
theorem Oi (h : Can N T) : InS (CD N T) /\ Alike (AQ N) (CD N T) := by
 obtain ⟨hc, l1, l2, hT⟩ := OH h.ask
 have hg := DD hc
 have hz := h.cost
 rw [UN hg.w l1 l2 hT] at hz
 refine ⟨⟨(Cr hg.w).ok, λ i hi => ?_, λ i hi => Ph hz hi, (Ec hg.w l1 l2 hT).1 h.unb⟩, ND⟩
 have := Iq hg (ND (T := T)) i hi
 omega
theorem Np (h : AD N = 0) {d : Desk} (hl : Alike (AQ N) d) (hi : InS d) : Can N (AP d) := by
 obtain ⟨a, b, c⟩ := Gd h hl (λ i hi' => by have := hi.now i hi'; have := hi.sp i hi'; omega) hi.zero
 exact ⟨a, b, c.trans (Nt hi.now)⟩
theorem Al (h : Can N T) : CJ N = 0 := by
 have h1 := VT h.ask h.unb
 have h2 := OW (OH h.ask).1
 have := h.cost
 omega
theorem Kx (h : AD N = 0) (hc : CJ N = 0) : Can N (MA N) := by
 obtain ⟨a, b, c⟩ := XZ h
 exact ⟨a, b, c.trans hc⟩
def TR (N : NetL) (T : TruthL) (s : Nat) : Int := gD T.t s + BQ N.r.length λ i => bS s (gD N.r i) (gD T.f i)
theorem Sg (hg : GoodW N) (h1 : T.f.length = N.r.length) (h2 : T.t.length = N.g.length) (hT : LJ T) {s : Nat} (hs : s < N.g.length) : Cq N T s = TR N T s := by
 have := hg.r14
 unfold Cq TR
 exact At (B := 100000000) (by omega) s N.r T.f (gD T.t s) 100000000 h1.symm hT.1 (hT.2 s (by omega)) (by omega)
theorem JP (hg : GoodW N) (h1 : T.f.length = N.r.length) (h2 : T.t.length = N.g.length) (hT : LJ T) : XU N T = [] ↔ ∀ s, s < N.g.length -> TR N T s = 0 := by
 unfold XU Un
 rw [List.map_eq_nil_iff, List.filter_eq_nil_iff]
 simp only [List.mem_range, Su, Bool.not_eq_true', decide_eq_false_iff_not, Decidable.not_not]
 constructor
 ·intro h s hs; rw [<- Sg hg h1 h2 hT hs]; exact h s hs
 ·intro h s hs; rw [Sg hg h1 h2 hT hs]; exact h s hs
theorem OA (h : AD N = 0) : Can N T ↔ (T.f.length = N.r.length /\ T.t.length = N.g.length) /\ (∀ i, i < N.r.length -> (gD N.r i).sp.lo <= gD T.f i /\ gD T.f i <= (gD N.r i).sp.hi) /\ (∀ j, j < N.g.length -> (gD N.g j).lo <= gD T.t j /\ gD T.t j <= (gD N.g j).hi) /\ ∀ s, s < N.g.length -> TR N T s = 0 := by
 have hg := DD h
 constructor
 ·intro hC
  obtain ⟨_, l1, l2, hT⟩ := OH hC.ask
  obtain ⟨hi, _⟩ := Oi hC
  refine ⟨⟨l1, l2⟩, λ i hi' => ?_, λ j hj => ?_, (JP hg.w l1 l2 hT).1 hC.unb⟩
  ·have := hi.now i (by rw [DY]; omega)
   rw [IE hi'] at this; exact this
  ·have := hi.now (N.r.length + j) (by rw [DY]; omega)
   rw [HI hj] at this; exact this
 ·rintro ⟨⟨l1, l2⟩, h1, h2, h3⟩
  have hT : LJ T := ⟨λ i hi => by have := h1 i (by omega); have := (hg.r i (by omega)).1; omega, λ i hi => by have := h2 i (by omega); have := hg.g i (by omega); omega⟩
  refine ⟨UI h l1 l2 hT, (JP hg.w l1 l2 hT).2 h3, ?_⟩
  rw [UN hg.w l1 l2 hT]
  refine Nt λ i hi => ?_
  rw [DY] at hi
  revert i
  refine PP (λ i hi => ?_) (λ j hj => ?_)
  ·rw [IE hi]; exact h1 i hi
  ·rw [HI hj]; exact h2 j hj
theorem Rf (h : AD N = 0) {i : Nat} (hi : i < N.r.length) : gD (KT N) i = (EI (AA N) i).getD default := by
 obtain ⟨h2, _⟩ := DE h
 obtain ⟨l1, l2, l3⟩ := IZ h2
 unfold KT
 have : gD ((LO (AA N)).take (AA N).nR) i = gD (LO (AA N)) i := by
  simp only [gD, List.getD_eq_getElem?_getD]; rw [List.getElem?_take_of_lt (by omega)]
 rw [this]; exact DU (λ (i : Nat) => (EI (AA N) i).getD default) (by omega)
theorem Qs (h : AD N = 0) {j : Nat} (hj : j < N.g.length) : gD (KV N) j = (EI (AA N) ((N.r.length + j : Nat) : Int)).getD default := by
 obtain ⟨h2, _⟩ := DE h
 obtain ⟨l1, l2, l3⟩ := IZ h2
 unfold KV
 have : gD ((LO (AA N)).drop (AA N).nR) j = gD (LO (AA N)) ((AA N).nR + j) := by
  simp only [gD, List.getD_eq_getElem?_getD, List.getElem?_drop]
 rw [this, l3]; exact DU (λ (i : Nat) => (EI (AA N) i).getD default) (by omega)
theorem Do (h : AD N = 0) : (KT N).length = N.r.length /\ (KV N).length = N.g.length := by
 obtain ⟨h2, _⟩ := DE h
 obtain ⟨l1, l2, l3⟩ := IZ h2
 constructor
 ·simp [KT, LO]; omega
 ·simp [KV, LO]; omega
structure IsSpan (N : NetL) (f : TruthL -> Int) (s : Span) : Prop where
 lo : ∃ T, Can N T /\ f T = s.lo
 hi : ∃ T, Can N T /\ f T = s.hi
 all : ∀ T, Can N T -> s.lo <= f T /\ f T <= s.hi
theorem IsSpan.uniq {f : TruthL -> Int} {s t : Span} (h : IsSpan N f s) (k : IsSpan N f t) : s = t := by
 obtain ⟨T1, c1, e1⟩ := h.lo
 obtain ⟨T2, c2, e2⟩ := h.hi
 obtain ⟨T3, c3, e3⟩ := k.lo
 obtain ⟨T4, c4, e4⟩ := k.hi
 have := k.all T1 c1
 have := k.all T2 c2
 have := h.all T3 c3
 have := h.all T4 c4
 obtain ⟨a, b⟩ := s
 obtain ⟨c, d⟩ := t
 simp only at *
 rw [show a = c by omega, show b = d by omega]
theorem IsSpan.le {f : TruthL -> Int} {s : Span} (h : IsSpan N f s) : s.lo <= s.hi := by
 obtain ⟨T1, c1, e1⟩ := h.lo
 have := h.all T1 c1
 omega
theorem Ab (h : AD N = 0) (hc : CJ N = 0) {i : Nat} (hi : i < N.r.length + N.g.length) : (EI (AA N) i).isSome = true /\ IsSpan N (λ T => (gD (CD N T).all i).now) ((EI (AA N) i).getD default) := by
 obtain ⟨h2, π, hs⟩ := DE h
 obtain ⟨l1, l2, l3⟩ := IZ h2
 obtain ⟨s, dl, dh, e, ⟨il, al, nl⟩, ⟨ih, ah, nh⟩, ha⟩ := Pq h (by omega) (i := i) (by omega)
 rw [e]
 have hL := hs.like
 refine ⟨rfl, ⟨AP dl, Np h (hL.trans al) il, ?_⟩, ⟨AP dh, Np h (hL.trans ah) ih, ?_⟩, λ T hT => ?_⟩
 ·show (gD (CD N (AP dl)).all i).now = s.lo
  rw [LN (hL.trans al)]; exact nl
 ·show (gD (CD N (AP dh)).all i).now = s.hi
  rw [LN (hL.trans ah)]; exact nh
 ·obtain ⟨i1, a1⟩ := Oi hT
  exact ha _ i1 (Jb hL a1)
theorem Lp (h : AD N = 0) (hc : CJ N = 0) : ∀ i : Nat, i < (AA N).all.length -> (EI (AA N) i).isSome = true := λ i hi => by
 obtain ⟨h2, _⟩ := DE h
 obtain ⟨l1, l2, l3⟩ := IZ h2
 exact (Ab h hc (by omega)).1
theorem QJ (h : AD N = 0) (hc : CJ N = 0) {i : Nat} (hi : i < N.r.length) : IsSpan N (λ T => gD T.f i) (gD (KT N) i) := by
 have := (Ab h hc (i := i) (by omega)).2
 rw [<- Rf h hi] at this
 have e : (λ T => (gD (CD N T).all i).now) = λ T => gD T.f i := by funext T; rw [IE hi]
 rw [e] at this; exact this
theorem QI (h : AD N = 0) (hc : CJ N = 0) {j : Nat} (hj : j < N.g.length) : IsSpan N (λ T => gD T.t j) (gD (KV N) j) := by
 have := (Ab h hc (i := N.r.length + j) (by omega)).2
 rw [<- Qs h hj] at this
 have e : (λ T => (gD (CD N T).all (N.r.length + j)).now) = λ T => gD T.t j := by funext T; rw [HI hj]
 rw [e] at this; exact this
end Go.Bal
