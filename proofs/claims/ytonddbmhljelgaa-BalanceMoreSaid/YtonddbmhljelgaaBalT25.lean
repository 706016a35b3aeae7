/- Package balance: wider spans, a reach more, and no reaches at all. -/
import Derived.Test.YtonddbmhljelgaaBalAr
set_option linter.unusedVariables false
set_option linter.unusedSimpArgs false
namespace Go.Bal
open Go
variable {N W : NetL} {T : TruthL}
theorem Mn {x : Int} {s t : Span} (h1 : t.lo <= s.lo) (h2 : s.hi <= t.hi) : FY x t <= FY x s := by unfold FY; omega
theorem MP (N : NetL) (T : TruthL) : LX (CD N T).all = BQ N.r.length (λ i => FY (gD T.f i) (gD N.r i).sp) + BQ N.g.length λ j => FY (gD T.t j) (gD N.g j) := by
 unfold LX
 rw [NA, DY, NZ]
 congr 1
 ·exact BL λ i hi => by rw [IE hi]
 ·exact BL λ j hj => by rw [HI hj]
structure Wider (N W : NetL) : Prop where
 g : W.g = N.g
 len : W.r.length = N.r.length
 r : ∀ i, i < N.r.length -> ((gD W.r i).fr = (gD N.r i).fr /\ (gD W.r i).to = (gD N.r i).to) /\ (gD W.r i).sp.lo <= (gD N.r i).sp.lo /\ (gD N.r i).sp.hi <= (gD W.r i).sp.hi
theorem Wider.bal (h : Wider N W) (s : Nat) : TR W T s = TR N T s := by
 unfold TR
 rw [h.len]
 congr 1
 refine BL λ i hi => ?_
 obtain ⟨⟨a, b⟩, _⟩ := h.r i hi
 unfold bS
 rw [a, b]
theorem Wider.can (h : Wider N W) (hn : AD N = 0) (hw : AD W = 0) (hT : Can N T) : Can W T := by
 rw [OA hn] at hT
 rw [OA hw]
 obtain ⟨⟨a, b⟩, c, d, e⟩ := hT
 refine ⟨⟨by rw [h.len]; exact a, by rw [h.g]; exact b⟩, λ i hi => ?_, λ j hj => ?_, λ s hs => ?_⟩
 ·rw [h.len] at hi
  have := c i hi
  have := (h.r i hi).2
  omega
 ·rw [h.g] at hj ⊢; exact d j hj
 ·rw [h.bal]; rw [h.g] at hs; exact e s hs
theorem Wider.spans (h : Wider N W) (hn : AD N = 0) (hw : AD W = 0) (hz : CJ N = 0) : CJ W = 0 /\ (∀ i, i < N.r.length -> (gD (KT W) i).lo <= (gD (KT N) i).lo /\ (gD (KT N) i).hi <= (gD (KT W) i).hi) /\ ∀ j, j < N.g.length -> (gD (KV W) j).lo <= (gD (KV N) j).lo /\ (gD (KV N) j).hi <= (gD (KV W) j).hi := by
 have hzw : CJ W = 0 := Al (h.can hn hw (Kx hn hz))
 refine ⟨hzw, λ i hi => ?_, λ j hj => ?_⟩
 ·have a := QJ hn hz hi
  have b := QJ hw hzw (i := i) (by rw [h.len]; exact hi)
  obtain ⟨T1, c1, e1⟩ := a.lo
  obtain ⟨T2, c2, e2⟩ := a.hi
  have := b.all T1 (h.can hn hw c1)
  have := b.all T2 (h.can hn hw c2)
  omega
 ·have a := QI hn hz hj
  have b := QI hw hzw (j := j) (by rw [h.g]; exact hj)
  obtain ⟨T1, c1, e1⟩ := a.lo
  obtain ⟨T2, c2, e2⟩ := a.hi
  have := b.all T1 (h.can hn hw c1)
  have := b.all T2 (h.can hn hw c2)
  omega
theorem Wider.cost (h : Wider N W) (hn : AD N = 0) (hw : AD W = 0) : CJ W <= CJ N := by
 obtain ⟨t1, t2, t3⟩ := XZ hn
 obtain ⟨_, l1, l2, hT⟩ := OH t1
 have gn := (DD hn).w
 have gw := (DD hw).w
 have k1 : (MA N).f.length = W.r.length := by rw [h.len]; exact l1
 have k2 : (MA N).t.length = W.g.length := by rw [h.g]; exact l2
 have u1 : XO W (MA N) = 0 := UI hw k1 k2 hT
 have u2 : XU W (MA N) = [] := (JP gw k1 k2 hT).2 λ s hs => by
  rw [h.bal]; rw [h.g] at hs
  exact (JP gn l1 l2 hT).1 t2 s hs
 have u3 := VT u1 u2
 rw [UN gw k1 k2 hT, MP] at u3
 rw [UN gn l1 l2 hT, MP] at t3
 rw [h.len, h.g] at u3
 have : BQ N.r.length (λ i => FY (gD (MA N).f i) (gD W.r i).sp) <= BQ N.r.length λ i => FY (gD (MA N).f i) (gD N.r i).sp := NE λ i hi => by
  have := (h.r i hi).2
  exact Mn this.1 this.2
 omega
structure More (N J : NetL) (r : Reach) : Prop where
 g : J.g = N.g
 rs : J.r = N.r ++ [r]
 z : r.sp.lo <= 0 /\ 0 <= r.sp.hi
variable {J : NetL} {r : Reach}
def OQ (T : TruthL) : TruthL := ⟨T.f ++ [0], T.t⟩
theorem More.len (h : More N J r) : J.r.length = N.r.length + 1 := by rw [h.rs]; simp
theorem More.lo (h : More N J r) {i : Nat} (hi : i < N.r.length) : gD J.r i = gD N.r i := by rw [h.rs, CA, if_pos hi]
theorem More.hi (h : More N J r) : gD J.r N.r.length = r := by rw [h.rs, CA, if_neg (Nat.lt_irrefl _), Nat.sub_self]; rfl
theorem MU {i n : Nat} (hl : T.f.length = n) (hi : i < n) : gD (OQ T).f i = gD T.f i := by
 show gD (T.f ++ [0]) i = _
 rw [CA, if_pos (by omega)]
theorem UX {n : Nat} (hl : T.f.length = n) : gD (OQ T).f n = 0 := by
 show gD (T.f ++ [0]) n = _
 rw [CA, if_neg (by omega), show n - T.f.length = 0 by omega]; rfl
theorem More.bal (h : More N J r) (hl : T.f.length = N.r.length) (s : Nat) : TR J (OQ T) s = TR N T s := by
 unfold TR
 rw [h.len]
 simp only [BQ]
 rw [h.hi, UX hl]
 have e : bS (s : Int) r 0 = 0 := by unfold bS; split <;> (try split) <;> rfl
 rw [e, Int.add_zero]
 congr 1
 exact BL λ i hi => by rw [h.lo hi, MU hl hi]
theorem More.can (h : More N J r) (hn : AD N = 0) (hj : AD J = 0) (hT : Can N T) : Can J (OQ T) := by
 rw [OA hn] at hT
 rw [OA hj]
 obtain ⟨⟨a, b⟩, c, d, e⟩ := hT
 refine ⟨⟨by rw [h.len]; show (T.f ++ [0]).length = _; simp [a], by rw [h.g]; exact b⟩, λ i hi => ?_, λ j hj => ?_, λ s hs => ?_⟩
 ·rw [h.len] at hi
  by_cases hi' : i < N.r.length
  ·rw [h.lo hi', MU a hi']; exact c i hi'
  ·rw [show i = N.r.length by omega, h.hi, UX a]; exact h.z
 ·rw [h.g] at hj ⊢; exact d j hj
 ·rw [h.bal a]; rw [h.g] at hs; exact e s hs
theorem More.spans (h : More N J r) (hn : AD N = 0) (hj : AD J = 0) (hz : CJ N = 0) : CJ J = 0 /\ (∀ i, i < N.r.length -> (gD (KT J) i).lo <= (gD (KT N) i).lo /\ (gD (KT N) i).hi <= (gD (KT J) i).hi) /\ ∀ j, j < N.g.length -> (gD (KV J) j).lo <= (gD (KV N) j).lo /\ (gD (KV N) j).hi <= (gD (KV J) j).hi := by
 have hzw : CJ J = 0 := Al (h.can hn hj (Kx hn hz))
 refine ⟨hzw, λ i hi => ?_, λ j hj' => ?_⟩
 ·have a := QJ hn hz hi
  have b := QJ hj hzw (i := i) (by rw [h.len]; omega)
  obtain ⟨T1, c1, e1⟩ := a.lo
  obtain ⟨T2, c2, e2⟩ := a.hi
  have x1 := b.all _ (h.can hn hj c1)
  have x2 := b.all _ (h.can hn hj c2)
  rw [MU ((OA hn).1 c1).1.1 hi] at x1
  rw [MU ((OA hn).1 c2).1.1 hi] at x2
  omega
 ·have a := QI hn hz hj'
  have b := QI hj hzw (j := j) (by rw [h.g]; exact hj')
  obtain ⟨T1, c1, e1⟩ := a.lo
  obtain ⟨T2, c2, e2⟩ := a.hi
  have x1 := b.all _ (h.can hn hj c1)
  have x2 := b.all _ (h.can hn hj c2)
  have y1 : gD (OQ T1).t j = gD T1.t j := rfl
  have y2 : gD (OQ T2).t j = gD T2.t j := rfl
  omega
theorem More.cost (h : More N J r) (hn : AD N = 0) (hj : AD J = 0) : CJ J <= CJ N := by
 obtain ⟨t1, t2, t3⟩ := XZ hn
 obtain ⟨_, l1, l2, hT⟩ := OH t1
 have gn := (DD hn).w
 have gj := (DD hj).w
 have k1 : (OQ (MA N)).f.length = J.r.length := by rw [h.len]; show ((MA N).f ++ [0]).length = _; simp [l1]
 have k2 : (OQ (MA N)).t.length = J.g.length := by rw [h.g]; exact l2
 have hT' : LJ (OQ (MA N)) := ⟨λ i hi => by
  rw [k1, h.len] at hi
  by_cases hi' : i < N.r.length
  ·rw [MU l1 hi']; exact hT.1 i (by omega)
  ·rw [show i = N.r.length by omega, UX l1]; omega, hT.2⟩
 have u1 : XO J (OQ (MA N)) = 0 := UI hj k1 k2 hT'
 have u2 : XU J (OQ (MA N)) = [] := (JP gj k1 k2 hT').2 λ s hs => by
  rw [h.bal l1]; rw [h.g] at hs
  exact (JP gn l1 l2 hT).1 t2 s hs
 have u3 := VT u1 u2
 rw [UN gj k1 k2 hT', MP] at u3
 rw [UN gn l1 l2 hT, MP] at t3
 rw [h.len, h.g] at u3
 simp only [BQ] at u3
 rw [h.hi, UX l1, BL (g := λ i => FY (gD (MA N).f i) (gD N.r i).sp) λ i hi => by rw [h.lo hi, MU l1 hi]] at u3
 have e1 : FY 0 r.sp = 0 := by have := h.z; unfold FY; omega
 have e2 : BQ N.g.length (λ j => FY (gD (OQ (MA N)).t j) (gD N.g j)) = BQ N.g.length λ j => FY (gD (MA N).t j) (gD N.g j) := rfl
 omega
def IB (N : NetL) : NetL := ⟨N.g, []⟩
theorem Ny (h : Good N) : Good (IB N) := ⟨h.g1, h.g8, Nat.zero_le _, h.g, λ i hi => by simp [IB] at hi⟩
theorem Nj (h : AD (IB N) = 0) : CJ (IB N) = BQ N.g.length λ j => FY 0 (gD N.g j) := by
 obtain ⟨t1, t2, t3⟩ := XZ h
 obtain ⟨_, l1, l2, hT⟩ := OH t1
 have gn := (DD h).w
 have hz : ∀ s, s < N.g.length -> gD (MA (IB N)).t s = 0 := λ s hs => by
  have := (JP gn l1 l2 hT).1 t2 s hs
  unfold TR at this
  have e : (IB N).r.length = 0 := rfl
  rw [e] at this
  simp only [BQ] at this
  omega
 rw [<- t3, UN gn l1 l2 hT, MP]
 have e : (IB N).r.length = 0 := rfl
 rw [e]
 simp only [BQ]
 rw [Int.zero_add]
 exact BL λ j hj => by rw [hz j hj]; rfl
def LU (N : NetL) : Nat -> Int
 | 0 => 0
 | k + 1 => wr (LU N k + max (max 0 (gD N.g k).lo) (wr (-(gD N.g k).hi)))
theorem Kb (h : Good N) : ∀ k, k <= N.g.length -> LU N k = (BQ k λ j => FY 0 (gD N.g j)) /\ 0 <= LU N k /\ LU N k <= 1000000 * k
 | 0, _ => by simp [LU, BQ]
 | k + 1, hk => by
  obtain ⟨a, b, c⟩ := Kb h k (by omega)
  have hg := h.g k (by omega)
  have h8 := h.g8
  simp only [LU, BQ]
  rw [show wr (-(gD N.g k).hi) = -(gD N.g k).hi from OT (by omega) (by omega)]
  have ew : wr (LU N k + max (max 0 (gD N.g k).lo) (-(gD N.g k).hi)) = LU N k + max (max 0 (gD N.g k).lo) (-(gD N.g k).hi) := OT (by omega) (by omega)
  rw [ew, <- a]
  have e : FY 0 (gD N.g k) = max (max 0 (gD N.g k).lo) (-(gD N.g k).hi) := by unfold FY; omega
  rw [e]
  omega
end Go.Bal

namespace Go.Bal
open Go Go.Sym Go.Proofs
structure BBB where
 a : List Int
 b : List Int
 c : List Int
def Uk (a : BBB) : List AVal := [.d (Ip a.a), .d (Ip a.b), .d (Ip a.c)]
theorem BalT.mono {N : NetL} {T : TruthL} {B C : Int} (h : BalT N T B) (hB : B <= C) : BalT N T C :=
 ⟨h.f, h.t, λ i hi => by have := h.fb i hi; omega, λ i hi => by have := h.tb i hi; omega, h.bal⟩
end Go.Bal

namespace Go.Bal
open Go Go.Sym Go.Proofs
def noR : List Reach := []
def Ls : DVal := .list 4 0 (λ i => LG (gD noR i)) true
def C52z : Ctr := { α := One, xs := λ _ => [.d (BS noR)], val := λ _ => .d Ls }
def Wl : List AVal -> Heap -> Option (One × List (Nat × Nat) × List Nat)
 | [.d (.list _ _ _ _)], _ => some (⟨0⟩, [], [])
 | _, _ => none
def Wj (a : One) : Prop := BM Try.prog (ann 7 []) Try.f52 (AJ Try.f52) (C52z.xs a) (AE []) (C52z.val a) [] [] []
theorem Xg (a : One) : (Wj a) = (((True /\ (0 < 0 -> 0 = 4)) /\ (True /\ (0 < 0 -> 4 = 4)) /\ (false = true -> 0 < 0) /\ 0 <= 9223372036854775807 /\ 0 <= 140737488355328) /\ 0 = 0 /\ ∀ (i : Nat), i < 0 -> (gD noR i).fr = (gD noR
 (i - 0)).fr /\ (gD noR i).to = (gD noR (i - 0)).to /\ (gD noR i).sp.lo = (gD noR (i - 0)).sp.lo /\ (gD noR i).sp.hi = (gD noR (i - 0)).sp.hi) := by kernel_rfl
def C15z : Ctr := { α := List Span, xs := λ g => [.d (EZ ⟨g, noR⟩)], val := λ g => .agg [.d (DV g), .d Ls], pre := λ g => [g.length <= 1000000] }
def Wd : List AVal -> Heap -> Option (List Span × List (Nat × Nat) × List Nat)
 | [.d x], _ => match LW x with
  | some N => some (N.g, [], [])
  | none => none
 | _, _ => none
def Wk := ann 10 [(51, C51.spec Yy), (52, C52z.spec Wl)]
def Yh (g : List Span) : Prop := BM Try.prog Wk Try.f15 (AJ Try.f15) (C15z.xs g) (AE []) (C15z.val g) [] [] []
theorem Wr (g : List Span) : (Yh g) = (((AC g.length λ (i : Nat) => gD g i).length = g.length /\ (∀ (i : Nat), i < (AC g.length λ (i : Nat) => gD g i).length -> (gD (AC g.length λ (i : Nat) => gD g i) i).lo =
 (gD g i).lo /\ (gD (AC g.length λ (i : Nat) => gD g i) i).hi = (gD g i).hi) /\ (AC g.length λ (i : Nat) => gD g i).length <= 1000000 /\ 0 = 0 /\ ∀ (i : Nat), i < 0 -> (gD noR i).fr = (gD noR i).fr /\ (gD noR i).to = (gD
 noR i).to /\ (gD noR i).sp.lo = (gD noR i).sp.lo /\ (gD noR i).sp.hi = (gD noR i).sp.hi) /\ g.length = (AC g.length λ (i : Nat) => gD g i).length /\ (∀ (i : Nat), i < g.length -> (gD g i).lo = (gD (AC g.length λ (i :
 Nat) => gD g i) i).lo /\ (gD g i).hi = (gD (AC g.length λ (i : Nat) => gD g i) i).hi) /\ 0 = 0 /\ ∀ (i : Nat), i < 0 -> (gD noR i).fr = (gD noR i).fr /\ (gD noR i).to = (gD noR i).to /\ (gD noR i).sp.lo = (gD noR i).sp.lo /\
 (gD noR i).sp.hi = (gD noR i).sp.hi) := by kernel_rfl
def C29z : Ctr := { C29 with val := λ (a : SN) => .tup [.d (EZ ⟨(EH a).g, noR⟩), .d (HZ (FH a))], pre := λ (a : SN) => [StmB 1000000000 a.s, 1 <= a.n /\ a.n <= 8, (EH a).r.length = 0] }
def C32z : Ctr := { C32 with val := λ (a : SNet) => .d (EZ ⟨a.N.g, noR⟩), pre := λ (a : SNet) => [StmB 1000000000 a.s, a.N.g.length <= 1000, a.N.r.length = 0] }
def Tt : List AVal -> Heap -> Option (C29z.α × List (Nat × Nat) × List Nat) := Qf
def Ud : List AVal -> Heap -> Option (C32z.α × List (Nat × Nat) × List Nat) := Zs
theorem Zq (a : One) : Wj a := by
 rw [Xg]; simp only [CC, eq_self, implies_true, forall_const]
 exact ⟨⟨λ h => absurd h (by decide), λ h => absurd h (by decide), by decide, by decide⟩, λ i hi => absurd hi (Nat.not_lt_zero _)⟩
theorem p15z (g : List Span) (h : g.length <= 1000000) : Yh g := by
 rw [Wr]; simp only [CC, eq_self, implies_true, forall_const]
 exact h
theorem Ut : AL Try.prog 52 (C52z.spec Wl) := JC C52z (λ _ => ann 7 []) [] [] Try.func52 (λ _ => by kernel_rfl) (λ _ => AH) (λ a _ => Zq a) (λ _ => KF rfl rfl) _
theorem Wu : AL Try.prog 15 (C15z.spec Wd) := JC C15z (λ _ => Wk) [] [] Try.func15 (λ _ => by kernel_rfl) (λ _ => AB Ui (AB Ut AH)) (λ g h => p15z g h) (λ _ => KF rfl rfl) _
theorem Vh : AL Try.prog 29 (C29z.spec Tt) := Ctr.spec_ok (C := C29z) (λ (a : SN) ha => by
 obtain ⟨h1, h2, h3⟩ : StmB 1000000000 a.s /\ (1 <= a.n /\ a.n <= 8) /\ (EH a).r.length = 0 := ha
 have e0 : (⟨(EH a).g, noR⟩ : NetL) = EH a := by
  have : (EH a).r = noR := List.length_eq_zero_iff.1 h3
  rw [<- this]
 have e : C29z.val a = C29.val a := by show AVal.tup [.d (EZ ⟨(EH a).g, noR⟩), .d (HZ (FH a))] = _; rw [e0]; rfl
 rw [e]
 exact RX (A := A29 a) (ren := []) (fz := [208, 209]) Try.func29 (by kernel_rfl) (AB Hh (AB Nk AH)) (p29 a h1 h2)) Tt
theorem Vb : AL Try.prog 32 (C32z.spec Ud) := Ctr.spec_ok (C := C32z) (λ (a : SNet) ha => by
 obtain ⟨h1, h2, h3⟩ : StmB 1000000000 a.s /\ a.N.g.length <= 1000 /\ a.N.r.length = 0 := ha
 have e0 : (⟨a.N.g, noR⟩ : NetL) = EO a := by
  have := List.length_eq_zero_iff.1 h3
  unfold EO; rw [this]; rfl
 have e : C32z.val a = C32.val a := by show AVal.d (EZ ⟨a.N.g, noR⟩) = _; rw [e0]; rfl
 rw [e]
 exact RX (A := Tg a) (ren := []) (fz := []) Try.func32 (by kernel_rfl) (AB Uw (AB Hh (AB Nk AH))) (Yc a h1 h2 h3)) Ud
end Go.Bal
