/- Package balance: which reaches alone can be wrong. -/
import Derived.Test.YtonddbmhljelgaaBalT15
import Derived.Test.YtonddbmhljelgaaBalS
import Derived.Test.YtonddbmhljelgaaBalO
set_option linter.unusedVariables false
set_option linter.unusedSimpArgs false
namespace Go.Bal
open Go
variable {N : NetL} {T : TruthL}
theorem En (hg : Good N) {k : Nat} (hk : k < N.r.length) : GoodW (CA N k) := by
 have e : ∀ i, gD (CA N k).r i = if i = k then { (gD N.r k) with sp := wide } else gD N.r i := λ i => BB hk i
 refine ⟨hg.g1, hg.g8, by show (N.r.modify k _).length <= 14; rw [List.length_modify]; exact hg.r14, hg.w.g, λ i hi => ?_⟩
 have hi : i < N.r.length := by simpa [CA] using hi
 rw [e]
 split
 ·obtain ⟨_, b⟩ := hg.r k hk
  exact ⟨by simp only [wide]; omega, b⟩
 ·exact hg.w.r i hi
theorem CQ (N : NetL) (k : Nat) : (CA N k).r.length = N.r.length := by simp [CA]
theorem Rx (hg : Good N) {k : Nat} (hk : k < N.r.length) : Alike (AJ (CA N k)) (CK N k) := by
 have e : ∀ i, gD (CA N k).r i = if i = k then { (gD N.r k) with sp := wide } else gD N.r i := λ i => BB hk i
 refine ⟨rfl, by show N.r.length = (CA N k).r.length; rw [CQ], by rw [HJ, BJ, CQ]; rfl, λ i hi => ?_⟩
 rw [BJ, CQ] at hi
 have hi : i < N.r.length + N.g.length := hi
 rw [QU (by omega), DK (CA N k), JB _ (by rw [EM, CQ]; exact hi)]
 revert i
 refine FK (λ i hi _ => ?_) (λ j hj _ => ?_)
 ·rw [NO (N := CA N k) (by rw [CQ]; exact hi), e]
  by_cases he : i = k
  ·subst he
   rw [if_pos rfl, if_pos rfl, DK N, JB _ (by rw [EM]; omega), NO hi]; exact ⟨rfl, rfl, rfl⟩
  ·rw [if_neg he, if_neg he, DK N, JB _ (by rw [EM]; omega), NO hi]; exact ⟨rfl, rfl, rfl⟩
 ·rw [if_neg (by omega), DK N, JB _ (by rw [EM]; omega), NS hj]
  have := NS (N := CA N k) (i := j) hj
  rw [CQ] at this
  rw [this]; exact ⟨rfl, rfl, rfl⟩
structure CanX (N : NetL) (k : Nat) (T : TruthL) : Prop where
 f : T.f.length = N.r.length
 t : T.t.length = N.g.length
 r : ∀ i, i < N.r.length -> i ≠ k -> (gD N.r i).sp.lo <= gD T.f i /\ gD T.f i <= (gD N.r i).sp.hi
 k : -100000000 <= gD T.f k /\ gD T.f k <= 100000000
 g : ∀ j, j < N.g.length -> (gD N.g j).lo <= gD T.t j /\ gD T.t j <= (gD N.g j).hi
 bal : ∀ s, s < N.g.length -> Im N T s = 0
theorem Kv {k : Nat} (hk : k < N.r.length) (s : Nat) : Im (CA N k) T s = Im N T s := by
 unfold Im
 rw [CQ]
 congr 1
 refine AX λ i hi => ?_
 rw [show gD (CA N k).r i = if i = k then { (gD N.r k) with sp := wide } else gD N.r i from BB hk i]
 by_cases he : i = k
 ·subst he; rw [if_pos rfl]; rfl
 ·rw [if_neg he]
theorem Fw {d d' : Desk} {π : Int -> Int} {M : Int} (h : Fit d π M) (hz : ∀ v : Nat, v < 10 -> EF v d.all = 0) (hl : Alike d d') (hz' : ∀ v : Nat, v < 10 -> EF v d'.all = 0) : JK d.all = HR π d.all /\ JK d.all <= JK d'.all := by
 have hlay := h.lay
 have hlay' := hlay.alike hl
 have hout := hlay.ok.out
 have m1 : ∀ w ∈ d.all, (0 <= w.fr /\ w.fr < 10) /\ 0 <= w.to /\ w.to < 10 := λ w hw => by have := hlay.mem hw; omega
 have m2 : ∀ w ∈ d'.all, (0 <= w.fr /\ w.fr < 10) /\ 0 <= w.to /\ w.to < 10 := λ w hw => by have := hlay'.mem hw; have := hlay'.ok.out; omega
 have e1 : HR π d.all = JK d.all := Ir m1 hz (λ w hw => by
  obtain ⟨i, hi, rfl⟩ := II hw
  have := h.sp i hi; omega) λ w hw => by
  obtain ⟨i, hi, rfl⟩ := II hw
  exact h.opt i hi
 have e2 : HR π d'.all = HR π d.all := VH hl.len.symm λ i hi => hl.way i hi
 have e3 : HR π d'.all <= JK d'.all := Hx m2 hz' λ w hw => by
  obtain ⟨i, hi, rfl⟩ := II hw
  have hi' : i < d.all.length := by rw [<- hl.len]; exact hi
  obtain ⟨a, b, _⟩ := hl.way i hi'
  rw [a, b]
  have := h.opt i hi'
  unfold Ew at this; omega
 exact ⟨e1.symm, by omega⟩
theorem Bj (h : AC N = 0) {k : Nat} (hk : k < N.r.length) : (CG (CK N k)).isSome = true /\ ∃ π, Fit (CB N k) π 2900000000 /\ (∀ v : Nat, v < 10 -> EF v (CB N k).all = 0) /\ Alike (AJ (CA N k)) (CB N k) /\ EW (CA N k) (AL (CB N k)) = JK (CB N k).all := by
 have hg := AS h
 have hw := En hg hk
 have hlike := Rx hg hk
 have hlen := BJ N
 have hLb := MG hg
 have hLs : Lay (CK N k) := (OU (T := AL (CK N k)) hw).alike (IK DJ hlike)
 have hsp : ∀ i, i < (CK N k).all.length -> (gD (CK N k).all i).now = (gD (AJ N).all i).now /\ ((gD (CK N k).all i).sp = wide ∨ (gD (CK N k).all i).sp = (gD (AJ N).all i).sp) := λ i hi => by
  rw [QU (by omega)]
  by_cases he : i = k
  ·subst he; rw [if_pos rfl]; exact ⟨rfl, .inl rfl⟩
  ·rw [if_neg he]; exact ⟨rfl, .inr rfl⟩
 obtain ⟨d', π, h1, h2, h3, h4⟩ := ZN hLs (λ i hi => by
  have h5 := FR hg (i := i) (by rw [HJ] at hi; omega)
  rcases (hsp i hi).2 with e | e
  ·rw [e]; simp only [wide]; omega
  ·rw [e]; omega) (λ i hi => by
  have h5 := FR hg (i := i) (by rw [HJ] at hi; omega)
  rw [(hsp i hi).1]
  rcases (hsp i hi).2 with e | e
  ·rw [e]; simp only [wide]; omega
  ·rw [e]; omega) (λ i hi => by
  have h5 := FR hg (i := i) (by rw [HJ] at hi; omega)
  rw [(hsp i hi).1]; omega)
 have hF : CB N k = d' := by unfold CB; rw [h1]; rfl
 rw [hF]
 have hl := hlike.trans h4
 exact ⟨by rw [h1]; rfl, π, h2, h3, hl, YF hw hl λ i hi => by have := (h2.small (by omega) hi).now; omega⟩
theorem Vm {k : Nat} (hg : Good N) (hk : k < N.r.length) {d : Desk} (hl : Alike (AJ (CA N k)) d) (hz : ∀ v : Nat, v < 10 -> EF v d.all = 0) (hin : ∀ i, i < d.all.length -> (gD d.all i).sp.lo <= (gD d.all i).now /\ (gD d.all i).now <= (gD d.all i).sp.hi) : CanX N k (AL d) := by
 have hw := En hg hk
 have e : ∀ i, gD (CA N k).r i = if i = k then { (gD N.r k) with sp := wide } else gD N.r i := λ i => BB hk i
 obtain ⟨e1, e2, e3⟩ := EN hl
 rw [CQ] at e1 e2 e3
 have hnR : d.nR = N.r.length := by rw [hl.nR]; show (CA N k).r.length = _; rw [CQ]
 have hout : d.out = N.g.length := hl.out
 have e1 : d.all.length = N.r.length + N.g.length := e1
 have fR : ∀ i, i < N.r.length -> (gD (CA N k).r i).sp.lo <= gD (AL d).f i /\ gD (AL d).f i <= (gD (CA N k).r i).sp.hi := λ i hi => by
  rw [RE (by omega), <- (e2 i hi).1]; exact hin i (by omega)
 have fG : ∀ j, j < N.g.length -> (gD N.g j).lo <= gD (AL d).t j /\ gD (AL d).t j <= (gD N.g j).hi := λ j hj => by
  have := (e3 j hj).1
  rw [WY (by omega), hnR, show gD N.g j = gD (CA N k).g j from rfl, <- this]; exact hin _ (by omega)
 have l1 : (AL d).f.length = N.r.length := by rw [JD, hnR]
 have l2 : (AL d).t.length = N.g.length := by rw [IV, hout]
 have hT : MR (AL d) := ⟨λ i hi => by have := fR i (by omega); have := (hw.r i (by rw [CQ]; omega)).1; omega, λ j hj => by have := fG j (by omega); have := hg.g j (by omega); omega⟩
 refine ⟨l1, l2, λ i hi hne => ?_, hT.1 k (by omega), fG, λ s hs => ?_⟩
 ·have := fR i hi; rw [e, if_neg hne] at this; exact this
 ·rw [<- Kv hk]
  refine (WS hw (by rw [CQ]; exact l1) l2 hT).1 ((TF hw (by rw [CQ]; exact l1) l2 hT).2 ?_) s hs
  rw [GV hl]; exact hz
theorem Pk {k : Nat} (hg : Good N) (hk : k < N.r.length) (hT : CanX N k T) : (∀ v : Nat, v < 10 -> EF v (AP (CA N k) T).all = 0) /\ JK (AP (CA N k) T).all = 0 := by
 have hw := En hg hk
 have e : ∀ i, gD (CA N k).r i = if i = k then { (gD N.r k) with sp := wide } else gD N.r i := λ i => BB hk i
 have fR : ∀ i, i < N.r.length -> (gD (CA N k).r i).sp.lo <= gD T.f i /\ gD T.f i <= (gD (CA N k).r i).sp.hi := λ i hi => by
  rw [e]
  by_cases he : i = k
  ·subst he; rw [if_pos rfl]; exact hT.k
  ·rw [if_neg he]; exact hT.r i hi he
 have l1 : T.f.length = (CA N k).r.length := by rw [CQ]; exact hT.f
 have hs : MR T := ⟨λ i hi => by have := fR i (by have := hT.f; omega); have := (hw.r i (by omega)).1; omega, λ j hj => by have := hT.g j (by have := hT.t; omega); have := hg.g j (by have := hT.t; omega); omega⟩
 refine ⟨(TF hw l1 hT.t hs).1 ((WS hw l1 hT.t hs).2 λ s hs => by rw [Kv hk]; exact hT.bal s hs), Ny λ i hi => ?_⟩
 rw [BT, CQ] at hi
 have hi : i < N.r.length + N.g.length := hi
 revert i
 refine FK (λ i hi _ => ?_) (λ j hj _ => ?_)
 ·rw [EL (by rw [CQ]; exact hi)]; exact fR i hi
 ·have := EX (N := CA N k) (T := T) (j := j) hj
  rw [CQ] at this
  rw [this]; exact hT.g j hj
theorem Ks (h : AC N = 0) {k : Nat} (hk : k < N.r.length) : TP N k = true ↔ ∃ T, CanX N k T := by
 have hg := AS h
 obtain ⟨_, π, h1, h2, h3, h4⟩ := Bj h hk
 unfold TP
 rw [h4, decide_eq_true_eq]
 constructor
 ·intro h0
  exact ⟨_, Vm hg hk h3 h2 λ i hi => Cr h0 hi⟩
 ·rintro ⟨T, hT⟩
  obtain ⟨a, b⟩ := Pk hg hk hT
  have := (Fw h1 h2 (IK h3 (DJ (T := T))) a).2
  have : 0 <= JK (CB N k).all := GR λ w _ => by unfold LQ; omega
  omega
end Go.Bal

namespace Go.Bal
open Go Go.Sym Go.Proofs
def SF (n : Nat) : Int -> Int -> List Int -> Int
 | e, _, [] => e
 | e, last, s :: l => SF n (if e = 0 then if inM s (wr (last + 1)) (wr ((n : Int) - 1)) then 0 else 2 else e) s l
def WB (a : NGr) : Int := SF a.N.g.length (AC a.N) (-1) a.st
def XI (a : NGr) : Int := if WB a = 0 then if a.st.length = 0 then 2 else 0 else WB a
def LG (a : NGr) : Int := if XI a = 0 then FF a.N else XI a
structure SLE where
 e : Int
 last : Int
 k : Nat
 deriving Inhabited
def A35b (a : NGr) : Ann := { ann 129 [(44, s44), (62, Zt), (73, C73b.spec QO)] with loops := λ id => if id = 4 then some [{ α := SLE, dflt := default, T := λ s => ⟨[(1, .d (AW a.st)), (2, .bptr 200 0), (4, .bptr 201 0), (6, .int s.e), (7, .int s.last), (19, .d (AW a.st)), (20, .int a.st.length), (21, .int s.k)], [(200, EZ a.N), (201, .live (.box [.int 0, .int 0]))]⟩, inv := λ s => s.k <= a.st.length /\ SF a.N.g.length s.e s.last (a.st.drop s.k) = WB a, meas := λ s => a.st.length - s.k, first := [(200, 1000), (201, 1016)] }] else none }
def C35b : Ctr := { α := NGr, xs := Zq, L := λ _ => [], val := λ a => .tup [.d (EU ⟨0, 0⟩), .int (LG a)], keep := λ _ => [], pre := λ a => [LG a ≠ 0, AC a.N = 0 -> (AO a.N).isSome = true, a.st.length < 4611686018427387904] }
def V35b (a : NGr) : Prop := BC Try.prog (A35b a) Try.f35 (AH Try.f35) (C35b.xs a) (AE (C35b.L a)) (C35b.val a) (C35b.keep a) [] []
theorem ABX (a : NGr) : (V35b a) = (let q := a
 let y0 := q.st.length = q.st.length
 let y1 := ∀ (i : Nat), i < q.st.length -> gD q.st i = gD q.st i
 let y2 := (↑q.st.length : Int) = (↑q.st.length : Int)
 let y3 := Int.ofNat (0 : Nat) = Int.ofNat (0 : Nat)
 let y4 := q.N.g.length = q.N.g.length /\ (∀ (i : Nat), i < q.N.g.length -> (gD q.N.g i).lo = (gD q.N.g i).lo /\ (gD q.N.g i).hi = (gD q.N.g i).hi) /\ q.N.r.length = q.N.r.length /\ (∀ (i : Nat), i < q.N.r.length -> (gD q.N.r i).fr = (gD q.N.r i).fr /\ (gD q.N.r i).to = (gD q.N.r i).to /\ (gD q.N.r i).sp.lo = (gD q.N.r i).sp.lo /\ (gD q.N.r i).sp.hi = (gD q.N.r i).sp.hi) /\ y3 /\ y3
 let y5 (a : SLE) := a.k <= q.st.length /\ SF q.N.g.length a.e a.last (List.drop a.k q.st) = WB q
 let y6 (a : SLE) := (↑a.k : Int) < (↑q.st.length : Int)
 let y7 (a : SLE) := a.e == (0 : Int)
 let y8 (a : SLE) (a2 : SLE) := a.last = gD q.st a2.k /\ y0 /\ y1 /\ y2 /\ (↑a.k : Int) = IntKind.i64.wrap ((↑a2.k : Int) + (1 : Int)) /\ y4
 let y9 (a1 : SLE) := q.st.length - a1.k
 let y10 (a : SLE) (a2 : SLE) := y5 a /\ y9 a < y9 a2
 let y11 : List Span := AD q.N.g.length λ (i : Nat) => gD q.N.g i
 let y12 := y11.length
 let y13 (i : Nat) : Span := gD y11 i
 let y14 : List Reach := AD q.N.r.length λ (i : Nat) => gD q.N.r i
 let y15 := y14.length
 let y16 (i : Nat) : Reach := gD y14 i
 let y17 (i : Nat) : Span := (y16 i).sp
 let y18 : NetL := NetL.mk y11 y14
 let y19 := FF y18
 (((∀ (i : Nat), i < a.N.g.length -> True) /\ ∀ (i : Nat), i < a.N.r.length -> True) /\ (∃ (a_1 : SLE), (y0 /\ y1 /\ a_1.e = DE (Net.mk a.N.g.length (λ (i : Nat) => gD
 a.N.g i) a.N.r.length λ (i : Nat) => gD a.N.r i) /\ a_1.last = (-1 : Int) /\ y0 /\ y1 /\ y2 /\ (↑a_1.k : Int) = (0 : Int) /\ y4) /\ y5 a_1) /\ ∀ (a_1 : SLE), y5 a_1 -> bif decide (y6 a_1) then ((0 : Int) <= (↑a_1.k : Int) /\ y6 a_1) /\ bif bif y7 a_1 then !inM (gD a.st a_1.k) (IntKind.i64.wrap (a_1.last + (1 : Int))) (IntKind.i64.wrap ((↑a.N.g.length : Int) - (1 : Int))) else false then ∃ (a_3 :
 SLE), (y0 /\ y1 /\ a_3.e = (2 : Int) /\ y8 a_3 a_1) /\ y10 a_3 a_1 else ∃ (a_3 : SLE), (y0 /\ y1 /\ a_3.e = a_1.e /\ y8 a_3 a_1) /\ y10 a_3 a_1 else bif bif y7 a_1 then
 (↑a.st.length : Int) == (0 : Int) else false then y3 /\ y3 /\ LG a = (2 : Int) else bif a_1.e != (0 : Int) then y3 /\ y3 /\ LG a = a_1.e else (y12 = a.N.g.length /\ (∀ (i : Nat), i < y12 ->
 (y13 i).lo = (gD a.N.g i).lo /\ (y13 i).hi = (gD a.N.g i).hi) /\ y15 = a.N.r.length /\ (∀ (i : Nat), i < y15 -> (y16 i).fr = (gD a.N.r i).fr /\ (y16 i).to = (gD a.N.r i).to /\ (y17 i).lo = (gD a.N.r i).sp.lo /\ (y17 i).hi = (gD a.N.r i).sp.hi) /\ y19 ≠ (0 : Int) /\ (AC y18 = (0 : Int) -> (AO y18).isSome = true)) /\ bif y19 != (0 : Int) then y3 /\ y3 /\
 LG a = y19 else False)) := by kernel_rfl
theorem p35b (a : NGr) (h1 : LG a ≠ 0) (h2 : AC a.N = 0 -> (AO a.N).isSome = true) (h3 : a.st.length < 4611686018427387904) : V35b a := by
 rw [ABX]; (conv => zeta); simp only [CC, eq_self, implies_true, forall_const, DL.d6, DL.d7, DL.d8, JY]
 refine ⟨⟨⟨AC a.N, -1, 0⟩, ⟨rfl, rfl, rfl⟩, Nat.zero_le _, rfl⟩, λ s ⟨q1, q2⟩ => ⟨λ hlt => ⟨⟨by omega, hlt⟩, λ hc => ?_, λ hc => ?_⟩, λ hge => ?_⟩⟩
 ·have hk : s.k < a.st.length := by omega
  rw [ED hk] at q2
  have he : s.e = 0 := Classical.byContradiction λ hne => by
   have : (s.e == 0) = false := by simpa using hne
   rw [this] at hc; cases hc
  rw [he] at hc
  have hb : inM (gD a.st s.k) (wr (s.last + 1)) (wr ((a.N.g.length : Int) - 1)) = false := by simpa using hc
  simp only [SF, if_pos he, hb] at q2
  exact ⟨⟨2, gD a.st s.k, s.k + 1⟩, ⟨rfl, rfl, (AN (by omega)).symm⟩, ⟨by show s.k + 1 <= _; omega, q2⟩, by show _ - (s.k + 1) < _; omega⟩
 ·have hk : s.k < a.st.length := by omega
  rw [ED hk] at q2
  refine ⟨⟨s.e, gD a.st s.k, s.k + 1⟩, ⟨rfl, rfl, (AN (by omega)).symm⟩, ⟨by show s.k + 1 <= _; omega, ?_⟩, by show _ - (s.k + 1) < _; omega⟩
  simp only [SF] at q2
  rw [<- q2]
  by_cases he : s.e = 0
  ·rw [he] at hc
   have hb : inM (gD a.st s.k) (wr (s.last + 1)) (wr ((a.N.g.length : Int) - 1)) = true := by simpa using hc
   rw [if_pos he, hb, he]; rfl
  ·rw [if_neg he]
 ·have hk : s.k = a.st.length := by omega
  rw [hk, List.drop_eq_nil_of_le (Nat.le_refl _)] at q2
  have q2 : s.e = WB a := q2
  rw [q2]
  by_cases h0 : WB a = 0
  ·rw [h0]
   by_cases hl : a.st.length = 0
   ·have e1 : XI a = 2 := by unfold XI; rw [if_pos h0, if_pos hl]
    have e2 : LG a = 2 := by unfold LG; rw [e1]; rfl
    simp [hl, e2]
   ·have e1 : XI a = 0 := by unfold XI; rw [if_pos h0, if_neg hl]
    have e2 : LG a = FF a.N := by unfold LG; rw [if_pos e1]
    have hl2 : ¬ (a.st.length : Int) = 0 := by omega
    rw [e2] at h1
    simp [hl, e2, h1]
    exact h2
  ·have e1 : XI a = WB a := by unfold XI; rw [if_neg h0]
   have e2 : LG a = WB a := by unfold LG; rw [e1, if_neg h0]
   simp [h0, e2]
end Go.Bal

namespace Go.Bal
open Go Go.Sym Go.Proofs
def HN (N : NetL) : Int := if AC N = 0 then if BK N = 0 then 8 else 0 else AC N
def A25e : Ann := ann 72 [(19, C19.spec QO)]
def A25b : Ann := ann 72 [(19, C19b.spec QO)]
def C25b : Ctr := { α := NetL, xs := λ N => [.d (EI N)], L := λ _ => [], val := λ N => .tup [.d (AW []), .int (HN N)], keep := λ _ => [], pre := λ N => [HN N ≠ 0, AC N = 0 -> (AO N).isSome = true] }
def V25e (N : NetL) : Prop := BC Try.prog A25e Try.f25 (AH Try.f25) (C25b.xs N) (AE []) (C25b.val N) (C25b.keep N) [] []
theorem ACW (N : NetL) : (V25e N) = (((AD N.g.length λ (i : Nat) => gD N.g i).length = N.g.length /\ (∀ (i : Nat), i < (AD N.g.length λ (i : Nat) => gD N.g i).length -> (gD (AD N.g.length λ (i : Nat) => gD N.g
 i) i).lo = (gD N.g i).lo /\ (gD (AD N.g.length λ (i : Nat) => gD N.g i) i).hi = (gD N.g i).hi) /\ (AD N.r.length λ (i : Nat) => gD N.r i).length = N.r.length /\ (∀ (i : Nat), i < (AD N.r.length λ (i : Nat) => gD
 N.r i).length -> (gD (AD N.r.length λ (i : Nat) => gD N.r i) i).fr = (gD N.r i).fr /\ (gD (AD N.r.length λ (i : Nat) => gD N.r i) i).to = (gD N.r i).to /\ (gD (AD N.r.length λ (i : Nat) => gD N.r i) i).sp.lo = (gD
 N.r i).sp.lo /\ (gD (AD N.r.length λ (i : Nat) => gD N.r i) i).sp.hi = (gD N.r i).sp.hi) /\ AC (NetL.mk (AD N.g.length λ (i : Nat) => gD N.g i) (AD N.r.length λ (i : Nat) => gD N.r i)) = 0 /\ (AO (NetL.mk
 (AD N.g.length λ (i : Nat) => gD N.g i) (AD N.r.length λ (i : Nat) => gD N.r i))).isSome = true) /\ bif decide (BK (NetL.mk (AD N.g.length λ (i : Nat) => gD N.g i) (AD N.r.length λ (i : Nat) => gD N.r i)) =
 0) then 0 = 0 /\ 0 = 0 /\ HN N = 8 else False) := by kernel_rfl
def V25b (N : NetL) : Prop := BC Try.prog A25b Try.f25 (AH Try.f25) (C25b.xs N) (AE []) (C25b.val N) (C25b.keep N) [] []
theorem ABW (N : NetL) : (V25b N) = (((AD N.g.length λ (i : Nat) => gD N.g i).length = N.g.length /\ (∀ (i : Nat), i < (AD N.g.length λ (i : Nat) => gD N.g i).length -> (gD (AD N.g.length λ (i : Nat) => gD N.g
 i) i).lo = (gD N.g i).lo /\ (gD (AD N.g.length λ (i : Nat) => gD N.g i) i).hi = (gD N.g i).hi) /\ (AD N.r.length λ (i : Nat) => gD N.r i).length = N.r.length /\ (∀ (i : Nat), i < (AD N.r.length λ (i : Nat) => gD
 N.r i).length -> (gD (AD N.r.length λ (i : Nat) => gD N.r i) i).fr = (gD N.r i).fr /\ (gD (AD N.r.length λ (i : Nat) => gD N.r i) i).to = (gD N.r i).to /\ (gD (AD N.r.length λ (i : Nat) => gD N.r i) i).sp.lo = (gD
 N.r i).sp.lo /\ (gD (AD N.r.length λ (i : Nat) => gD N.r i) i).sp.hi = (gD N.r i).sp.hi) /\ (AC (NetL.mk (AD N.g.length λ (i : Nat) => gD N.g i) (AD N.r.length λ (i : Nat) => gD N.r i)) = 0 -> False)) /\ bif
 AC (NetL.mk (AD N.g.length λ (i : Nat) => gD N.g i) (AD N.r.length λ (i : Nat) => gD N.r i)) != 0 then 0 = 0 /\ 0 = 0 /\ HN N = AC (NetL.mk (AD N.g.length λ (i : Nat) => gD N.g i) (AD N.r.length λ (i
 : Nat) => gD N.r i)) else False) := by kernel_rfl
theorem p25e (N : NetL) (h1 : AC N = 0) (h2 : (AO N).isSome = true) (h3 : BK N = 0) : V25e N := by
 rw [ACW]; simp only [CC, eq_self, implies_true, forall_const, DL.d6, DL.d7, DL.d8]
 exact ⟨⟨h1, h2⟩, λ _ => by unfold HN; rw [if_pos h1, if_pos h3], λ h => h h3⟩
theorem p25b (N : NetL) (h1 : AC N ≠ 0) : V25b N := by
 rw [ABW]; simp only [CC, eq_self, implies_true, forall_const, DL.d6, DL.d7, DL.d8]
 exact ⟨h1, λ _ => by unfold HN; rw [if_neg h1], λ h => h1 (by simpa using h)⟩
end Go.Bal
