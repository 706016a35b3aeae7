/- Package balance: corrections and levels: what is returned is right, and nothing is better. -/
import Derived.Test.YtonddbmhljelgaaBalZ
set_option linter.unusedVariables false
set_option linter.unusedSimpArgs false
namespace Go.Bal
open Go
variable {N : NetL} {T : TruthL}
theorem PE (h : AC N = 0) : ∃ π, Fit (AB N) π 46000000 /\ (∀ v : Nat, v < 10 -> EF v (AB N).all = 0) /\ Alike (AJ N) (AB N) /\ (AO N).isSome = true := by
 have hg := AS h
 have hl := MG hg
 have h8 := hg.g8
 have h14 := hg.r14
 have hlen := BJ N
 have h0 : DH (AJ N) <= 2 * 1000000 * (AJ N).all.length := UN (by omega) λ w hw => by
  obtain ⟨i, hi, rfl⟩ := II hw
  have := FR hg hi
  omega
 have hf : Fit (AJ N) (λ _ => 0) 46000000 := ⟨hl, λ i hi => by have := (FR hg hi).1; omega, λ i hi => by have := FR hg hi; omega, λ i hi => .inl ⟨by omega, (FR hg hi).2.1, (FR hg hi).2.2⟩⟩
 have hfu : (3000000000 : Int) < fuel := by unfold fuel; decide
 obtain ⟨d', π, h1, h2, h3, h4⟩ := RB (by omega) fuel (AJ N) _ hf (by omega)
 obtain ⟨hs, _⟩ := BD h
 have he := (XY hs).1
 have h1 : CG (AJ N) = some d' := h1
 rw [h1] at he
 cases he
 exact ⟨π, h2, (Dy h2.lay.ok (B := 3000000000) (by omega) λ i hi => (h2.small (by omega) hi).now).1 h3, h4, hs⟩
theorem MB (h : AC N = 0) {i : Nat} (hi : i < (AB N).all.length) : -46000000 <= (gD (AB N).all i).now /\ (gD (AB N).all i).now <= 46000000 := by
 obtain ⟨π, hf, _⟩ := PE h
 have := hf.now i hi
 have := IX (AB N)
 omega
def Ai (N : NetL) : TruthL := AL (AB N)
theorem Qm (h : AC N = 0) (h1 : T.f.length = N.r.length) (h2 : T.t.length = N.g.length) (hT : MR T) : EK N T = 0 := by
 have a1 : HP (λ i => inM (gD T.f i) (-100000000) 100000000) T.f.length = true := ET.2 λ i hi => BI.2 (hT.1 i hi)
 have a2 : HP (λ i => inM (gD T.t i) (-100000000) 100000000) T.t.length = true := ET.2 λ i hi => BI.2 (hT.2 i hi)
 unfold EK
 rw [if_pos h, if_pos ⟨h1, h2⟩, a1, a2]; rfl
theorem NH (h : EK N T = 0) : AC N = 0 /\ T.f.length = N.r.length /\ T.t.length = N.g.length /\ MR T := by
 obtain ⟨a, ⟨b, c⟩, d, e⟩ := YT h
 exact ⟨a, b, c, d, e⟩
theorem Lz (h : AC N = 0) {d : Desk} (hl : Alike (AJ N) d) (hb : ∀ i, i < d.all.length -> -100000000 <= (gD d.all i).now /\ (gD d.all i).now <= 100000000) (hz : ∀ v : Nat, v < 10 -> EF v d.all = 0) :
  EK N (AL d) = 0 /\ QC N (AL d) = [] /\ EW N (AL d) = JK d.all := by
 have hg := AS h
 have hnR : d.nR = N.r.length := hl.nR
 have hout : d.out = N.g.length := hl.out
 have hlen : d.all.length = N.r.length + N.g.length := (EN hl).1
 have l1 : (AL d).f.length = N.r.length := by rw [JD, hnR]
 have l2 : (AL d).t.length = N.g.length := by rw [IV, hout]
 have hT : MR (AL d) := ⟨λ i hi => by rw [RE (by omega)]; exact hb i (by omega), λ i hi => by rw [WY (by omega)]; exact hb _ (by omega)⟩
 refine ⟨Qm h l1 l2 hT, (TF hg.w l1 l2 hT).2 ?_, ?_⟩
 ·rw [GV hl]; exact hz
 ·rw [Jy hg.w l1 l2 hT, GV hl]
theorem Ii (h : AC N = 0) : EK N (Ai N) = 0 /\ QC N (Ai N) = [] /\ EW N (Ai N) = BK N := by
 obtain ⟨π, hf, hz, hl, _⟩ := PE h
 obtain ⟨a, b, c⟩ := Lz h hl (λ i hi => by have := MB h hi; omega) hz
 exact ⟨a, b, c.trans (WK h).symm⟩
theorem Rv (ha : EK N T = 0) (hu : QC N T = []) : BK N <= EW N T := by
 obtain ⟨h, l1, l2, hT⟩ := NH ha
 have hg := AS h
 obtain ⟨_, π, hs⟩ := BD h
 rw [Jy hg.w l1 l2 hT, WK h]
 have hl : Alike (AB N) (AP N T) := by
  have a := hs.like
  have b : Alike (AJ N) (AP N T) := DJ
  exact ⟨b.out.trans a.out.symm, b.nR.trans a.nR.symm, b.len.trans a.len.symm, λ i hi => by
   obtain ⟨a1, a2, a3⟩ := a.way i (by rw [<- a.len]; exact hi)
   obtain ⟨b1, b2, b3⟩ := b.way i (by rw [<- a.len]; exact hi)
   exact ⟨b1.trans a1.symm, b2.trans a2.symm, b3.trans a3.symm⟩⟩
 exact (Ez hs hl ((TF hg.w l1 l2 hT).1 hu)).1
theorem Gj {r p : Int} {s : Span} (hs : -1000000 <= s.lo /\ s.lo <= s.hi /\ s.hi <= 1000000) (hp : -1000000000000000 <= p /\ p <= 1000000000000000) : MO r s p = p + OF (-r) s := by
 unfold MO OF
 rw [CF (n := p + s.lo) (by omega) (by omega), CF (n := p - s.hi) (by omega) (by omega)]
 by_cases h1 : r = 1
 ·rw [if_pos h1, if_neg (by omega), if_pos (by omega)]
 ·rw [if_neg h1]
  by_cases h2 : r = -1
  ·rw [if_pos h2, if_pos (by omega)]; omega
  ·rw [if_neg h2, if_neg (by omega), if_neg (by omega)]; omega
theorem VN (r : Int) {s : Span} (hs : -1000000 <= s.lo /\ s.lo <= s.hi /\ s.hi <= 1000000) : -1000000 <= OF r s /\ OF r s <= 1000000 := by
 unfold OF; split
 ·omega
 ·split <;> omega
theorem Qp (lv : List Int) : ∀ (l : List Reach) (p K : Int), (∀ i, i < l.length -> -1000000 <= (gD l i).sp.lo /\ (gD l i).sp.lo <= (gD l i).sp.hi /\ (gD l i).sp.hi <= 1000000) -> -K <= p /\ p <= K -> K + 1000000 * l.length <= 1000000000000000 ->
  Yi lv p l = p + BM l.length λ i => OF (-(KY lv (gD l i))) (gD l i).sp
 | [], p, K, _, _, _ => by simp [Yi, BM]
 | r :: l, p, K, hs, hp, hK => by
  have h0 : -1000000 <= r.sp.lo /\ r.sp.lo <= r.sp.hi /\ r.sp.hi <= 1000000 := hs 0 (by simp)
  have hb := VN (-(KY lv r)) h0
  rw [List.length_cons] at hK
  rw [List.length_cons, OL]
  simp only [Yi]
  rw [Gj h0 (by omega), Qp lv l _ (K + 1000000) (λ i hi => hs (i + 1) (by simpa using hi)) (by omega) (by omega)]
  show p + OF (-(KY lv r)) r.sp + _ = p + (OF (-(KY lv r)) r.sp + _)
  rw [Int.add_assoc]; rfl
theorem Qj : ∀ (lv : List Int) (l : List Span) (p K : Int), lv.length = l.length -> (∀ i, i < l.length -> -1000000 <= (gD l i).lo /\ (gD l i).lo <= (gD l i).hi /\ (gD l i).hi <= 1000000) -> -K <= p /\ p <= K -> K + 1000000 * l.length <= 1000000000000000 ->
  prG p lv l = p + BM l.length λ i => OF (-(gD lv i)) (gD l i)
 | [], [], p, K, _, _, _, _ => by simp [prG, BM]
 | [], _ :: _, p, K, h, _, _, _ => by simp at h
 | _ :: _, [], p, K, h, _, _, _ => by simp at h
 | x :: lv, s :: l, p, K, hl, hs, hp, hK => by
  have h0 : -1000000 <= s.lo /\ s.lo <= s.hi /\ s.hi <= 1000000 := hs 0 (by simp)
  have hb := VN (-x) h0
  rw [List.length_cons] at hK
  rw [List.length_cons, OL]
  simp only [prG]
  rw [Gj h0 (by omega), Qj lv l _ (K + 1000000) (by simpa using hl) (λ i hi => hs (i + 1) (by simpa using hi)) (by omega) (by omega)]
  show p + OF (-x) s + _ = p + (OF (-x) s + _)
  rw [Int.add_assoc]; rfl
def OG (lv : List Int) (v : Int) : Int := if 0 <= v /\ v < lv.length then -(gD lv v.toNat) else 0
theorem FW {lv : List Int} : HA N lv = true ↔ lv.length = N.g.length /\ (∀ i, i < lv.length -> -1 <= gD lv i /\ gD lv i <= 1) /\ ∀ i, i < N.r.length -> -1 <= KY lv (gD N.r i) /\ KY lv (gD N.r i) <= 1 := by
 unfold HA
 simp only [Bool.and_eq_true, decide_eq_true_eq, ET, ER, BI]
 constructor
 ·rintro ⟨⟨a, b⟩, c⟩; exact ⟨a, b, c⟩
 ·rintro ⟨a, b, c⟩; exact ⟨⟨a, b⟩, c⟩
theorem LW {lv : List Int} (hg : Good N) (hl : lv.length = N.g.length) (hb : ∀ i, i < lv.length -> -1 <= gD lv i /\ gD lv i <= 1) {i : Nat} (hi : i < N.r.length) : -(KY lv (gD N.r i)) = OG lv (gD N.r i).to - OG lv (gD N.r i).fr := by
 obtain ⟨_, h1, h2, _⟩ := hg.r i hi
 have b1 := hb (gD N.r i).fr.toNat (by omega)
 have b2 := hb (gD N.r i).to.toNat (by omega)
 unfold KY OG
 rw [CF (n := gD lv (gD N.r i).to.toNat - gD lv (gD N.r i).fr.toNat) (by omega) (by omega), if_pos (by omega), if_pos (by omega)]
 omega
theorem UL {lv : List Int} (hg : Good N) (hl : lv.length = N.g.length) (hb : ∀ i, i < lv.length -> -1 <= gD lv i /\ gD lv i <= 1) {d : Desk} (hd : Alike (AJ N) d) : HE N lv = HR (OG lv) d.all := by
 obtain ⟨e1, e2, e3⟩ := EN hd
 have h8 := hg.g8
 have h14 := hg.r14
 have sR : ∀ i, i < N.r.length -> -1000000 <= (gD N.r i).sp.lo /\ (gD N.r i).sp.lo <= (gD N.r i).sp.hi /\ (gD N.r i).sp.hi <= 1000000 := λ i hi => by have := (hg.r i hi).1; omega
 have sG : ∀ i, i < N.g.length -> -1000000 <= (gD N.g i).lo /\ (gD N.g i).lo <= (gD N.g i).hi /\ (gD N.g i).hi <= 1000000 := λ i hi => by have := hg.g i hi; omega
 have hcap : ∀ (n : Nat) (f : Nat -> Int), (∀ i, i < n -> -1000000 <= f i /\ f i <= 1000000) -> -(1000000 * (n : Int)) <= BM n f /\ BM n f <= 1000000 * n := by
  intro n f h
  induction n with
  | zero => simp [BM]
  | succ n ih =>
   have := ih λ i hi => h i (by omega)
   have := h n (by omega)
   simp only [BM]; omega
 have cR := hcap N.r.length (λ i => OF (-(KY lv (gD N.r i))) (gD N.r i).sp) λ i hi => VN _ (sR i hi)
 unfold HE
 rw [Qp lv N.r 0 0 sR (by omega) (by omega), Qj lv N.g _ 20000000 hl sG (by omega) (by omega)]
 unfold HR
 rw [KT, e1, JS, Int.zero_add]
 congr 1
 ·refine AX λ i hi => ?_
  obtain ⟨a, b, c⟩ := e2 i hi
  rw [a, b, c, LW hg hl hb hi]
 ·refine AX λ i hi => ?_
  obtain ⟨a, b, c⟩ := e3 i hi
  rw [a, b, c]
  unfold OG
  rw [if_pos (by omega), if_neg (by omega)]
  simp
theorem Qe {d : Desk} (hg : Good N) (hd : Alike (AJ N) d) : ∀ w ∈ d.all, (0 <= w.fr /\ w.fr < 10) /\ 0 <= w.to /\ w.to < 10 := λ w hw => by
 have hL := (MG hg).alike hd
 have := hL.mem hw
 have := hL.ok.out
 omega
theorem Rw {lv : List Int} (hv : HA N lv = true) (ha : EK N T = 0) (hu : QC N T = []) : HE N lv <= EW N T := by
 obtain ⟨h, l1, l2, hT⟩ := NH ha
 have hg := AS h
 obtain ⟨v1, v2, v3⟩ := FW.1 hv
 rw [Jy hg.w l1 l2 hT, UL hg v1 v2 (DJ (T := T))]
 refine Hx (Qe hg DJ) ((TF hg.w l1 l2 hT).1 hu) λ w hw => ?_
 obtain ⟨i, hi, rfl⟩ := II hw
 rw [BT] at hi
 revert i
 refine FK (λ i hi _ => ?_) (λ j hj _ => ?_)
 ·rw [EL hi]; simp only; rw [<- LW hg v1 v2 hi]; have := v3 i hi; omega
 ·rw [EX hj]; simp only; unfold OG; rw [if_pos (by omega), if_neg (by omega)]; have := v2 j (by omega); simp only [Int.toNat_natCast]; omega
theorem Fo {lv : List Int} (h : AC N = 0) (hv : HA N lv = true) : HE N lv <= BK N := by
 obtain ⟨a, b, c⟩ := Ii h
 rw [<- c]; exact Rw hv a b
theorem Pz (h : AC N = 0) : HA N (JJ N) = true /\ HE N (JJ N) = BK N := by
 have hg := AS h
 have h8 := hg.g8
 obtain ⟨π, hf, hz, hl, _⟩ := PE h
 have hout : (AB N).out = N.g.length := hl.out
 obtain ⟨rf, r1, r2, r3, r4⟩ := Qz hf (by omega) (o := (N.g.length : Int)) (by omega)
 obtain ⟨e1, e2, e3⟩ := EN hl
 have hro : HV (AB N) any N.g.length = rf := by simp [HV, r1]
 have hrise : ∀ i, i < (AB N).all.length -> -1 <= (rf.m.far (gD (AB N).all i).to).cost - (rf.m.far (gD (AB N).all i).fr).cost /\ (rf.m.far (gD (AB N).all i).to).cost - (rf.m.far (gD (AB N).all i).fr).cost <= 1 := λ i hi => by
  have := r4.opt i hi
  unfold Ew at this
  omega
 have hgain : ∀ j, j < N.g.length -> -1 <= (rf.m.far (j : Nat)).cost /\ (rf.m.far (j : Nat)).cost <= 1 := λ j hj => by
  have := hrise (N.r.length + j) (by omega)
  obtain ⟨_, b, c⟩ := e3 j hj
  rw [b, c, r3] at this
  omega
 have hlen : (JJ N).length = N.g.length := by simp [JJ]
 have hlv : ∀ j, j < N.g.length -> gD (JJ N) j = -(rf.m.far (j : Nat)).cost := λ j hj => by
  unfold JJ
  rw [BZ (λ (i : Nat) => wr (-((HV (AB N) any N.g.length).m.far i).cost)) hj, hro]
  have := hgain j hj
  exact CF (by omega) (by omega)
 have hb : ∀ i, i < (JJ N).length -> -1 <= gD (JJ N) i /\ gD (JJ N) i <= 1 := λ i hi => by
  rw [hlv i (by omega)]; have := hgain i (by omega); omega
 have hpi : ∀ v : Int, 0 <= v -> v <= N.g.length -> OG (JJ N) v = (rf.m.far v).cost := λ v h0 h1 => by
  unfold OG
  by_cases hv : v < N.g.length
  ·rw [if_pos (by omega), hlv _ (by omega), show ((v.toNat : Nat) : Int) = v by omega]; omega
  ·rw [if_neg (by omega), show v = N.g.length by omega, r3]
 have hends := r4.lay.ends
 refine ⟨FW.2 ⟨hlen, hb, λ i hi => ?_⟩, ?_⟩
 ·have := hrise i (by omega)
  obtain ⟨_, b, c⟩ := e2 i hi
  rw [b, c] at this
  have e := LW hg hlen hb hi
  obtain ⟨_, q1, q2, _⟩ := hg.r i hi
  rw [hpi _ q1.1 (by omega), hpi _ q2.1 (by omega)] at e
  omega
 ·rw [UL hg hlen hb hl, WK h]
  have hlow : HR (OG (JJ N)) (AB N).all = HR (λ v => (rf.m.far v).cost) (AB N).all := by
   unfold HR
   refine JQ λ w hw => ?_
   have := r4.lay.mem hw
   rw [hpi _ (by omega) (by omega), hpi _ (by omega) (by omega)]
  rw [hlow]
  refine Ir (Qe hg hl) hz (λ w hw => ?_) λ w hw => ?_
  ·obtain ⟨i, hi, rfl⟩ := II hw
   have := hf.sp i hi; omega
  ·obtain ⟨i, hi, rfl⟩ := II hw
   exact r4.opt i hi
end Go.Bal

namespace Go.Bal
open Go
variable {N : NetL} {T : TruthL}
structure Can (N : NetL) (T : TruthL) : Prop where
 ask : EK N T = 0
 unb : QC N T = []
 cost : EW N T = 0
theorem IK {d d1 d2 : Desk} (a : Alike d d1) (b : Alike d d2) : Alike d1 d2 := ⟨b.out.trans a.out.symm, b.nR.trans a.nR.symm, b.len.trans a.len.symm, λ i hi => by
 obtain ⟨a1, a2, a3⟩ := a.way i (by rw [<- a.len]; exact hi)
 obtain ⟨b1, b2, b3⟩ := b.way i (by rw [<- a.len]; exact hi)
 exact ⟨b1.trans a1.symm, b2.trans a2.symm, b3.trans a3.symm⟩⟩
theorem QB (hg : Good N) {d : Desk} (hl : Alike (AJ N) d) : ∀ i, i < d.all.length -> -1000000 <= (gD d.all i).sp.lo /\ (gD d.all i).sp.lo <= (gD d.all i).sp.hi /\ (gD d.all i).sp.hi <= 1000000 := λ i hi => by
 have h := (FR hg (i := i) (by rw [<- hl.len]; exact hi)).1
 rw [<- (hl.way i (by rw [<- hl.len]; exact hi)).2.2] at h
 exact h
theorem Cr {l : List Way} (h : JK l = 0) {i : Nat} (hi : i < l.length) : (gD l i).sp.lo <= (gD l i).now /\ (gD l i).now <= (gD l i).sp.hi := by
 have := XU (λ w _ => by unfold LQ; omega) h (gD l i) (JG hi)
 unfold LQ at this
 omega
theorem Ny {l : List Way} (h : ∀ i, i < l.length -> (gD l i).sp.lo <= (gD l i).now /\ (gD l i).now <= (gD l i).sp.hi) : JK l = 0 := by
 unfold JK
 rw [JQ (g := λ _ => 0) λ w hw => ?_]
 ·rw [KT, HI]
 ·obtain ⟨i, hi, rfl⟩ := II hw
  have := h i hi
  unfold LQ; omega
theorem SB (h : Can N T) : InS (AP N T) /\ Alike (AJ N) (AP N T) := by
 obtain ⟨hc, l1, l2, hT⟩ := NH h.ask
 have hg := AS hc
 have hz := h.cost
 rw [Jy hg.w l1 l2 hT] at hz
 refine ⟨⟨(OU hg.w).ok, λ i hi => ?_, λ i hi => Cr hz hi, (TF hg.w l1 l2 hT).1 h.unb⟩, DJ⟩
 have := QB hg (DJ (T := T)) i hi
 omega
theorem Jq (h : AC N = 0) {d : Desk} (hl : Alike (AJ N) d) (hi : InS d) : Can N (AL d) := by
 obtain ⟨a, b, c⟩ := Lz h hl (λ i hi' => by have := hi.now i hi'; have := hi.sp i hi'; omega) hi.zero
 exact ⟨a, b, c.trans (Ny hi.now)⟩
theorem Vj (h : Can N T) : BK N = 0 := by
 have h1 := Rv h.ask h.unb
 have h2 := FY (NH h.ask).1
 have := h.cost
 omega
theorem Qx (h : AC N = 0) (hc : BK N = 0) : Can N (Ai N) := by
 obtain ⟨a, b, c⟩ := Ii h
 exact ⟨a, b, c.trans hc⟩
def Im (N : NetL) (T : TruthL) (s : Nat) : Int := gD T.t s + BM N.r.length λ i => bS s (gD N.r i) (gD T.f i)
theorem AAH (hg : GoodW N) (h1 : T.f.length = N.r.length) (h2 : T.t.length = N.g.length) (hT : MR T) {s : Nat} (hs : s < N.g.length) : ZS N T s = Im N T s := by
 have := hg.r14
 unfold ZS Im
 exact Cw (B := 100000000) (by omega) s N.r T.f (gD T.t s) 100000000 h1.symm hT.1 (hT.2 s (by omega)) (by omega)
theorem WS (hg : GoodW N) (h1 : T.f.length = N.r.length) (h2 : T.t.length = N.g.length) (hT : MR T) : QC N T = [] ↔ ∀ s, s < N.g.length -> Im N T s = 0 := by
 unfold QC EG
 rw [List.map_eq_nil_iff, List.filter_eq_nil_iff]
 simp only [List.mem_range, NY, Bool.not_eq_true', decide_eq_false_iff_not, Decidable.not_not]
 constructor
 ·intro h s hs; rw [<- AAH hg h1 h2 hT hs]; exact h s hs
 ·intro h s hs; rw [AAH hg h1 h2 hT hs]; exact h s hs
theorem PD (h : AC N = 0) : Can N T ↔ (T.f.length = N.r.length /\ T.t.length = N.g.length) /\ (∀ i, i < N.r.length -> (gD N.r i).sp.lo <= gD T.f i /\ gD T.f i <= (gD N.r i).sp.hi) /\ (∀ j, j < N.g.length -> (gD N.g j).lo <= gD T.t j /\ gD T.t j <= (gD N.g j).hi) /\ ∀ s, s < N.g.length -> Im N T s = 0 := by
 have hg := AS h
 constructor
 ·intro hC
  obtain ⟨_, l1, l2, hT⟩ := NH hC.ask
  obtain ⟨hi, _⟩ := SB hC
  refine ⟨⟨l1, l2⟩, λ i hi' => ?_, λ j hj => ?_, (WS hg.w l1 l2 hT).1 hC.unb⟩
  ·have := hi.now i (by rw [BT]; omega)
   rw [EL hi'] at this; exact this
  ·have := hi.now (N.r.length + j) (by rw [BT]; omega)
   rw [EX hj] at this; exact this
 ·rintro ⟨⟨l1, l2⟩, h1, h2, h3⟩
  have hT : MR T := ⟨λ i hi => by have := h1 i (by omega); have := (hg.r i (by omega)).1; omega, λ i hi => by have := h2 i (by omega); have := hg.g i (by omega); omega⟩
  refine ⟨Qm h l1 l2 hT, (WS hg.w l1 l2 hT).2 h3, ?_⟩
  rw [Jy hg.w l1 l2 hT]
  refine Ny λ i hi => ?_
  rw [BT] at hi
  revert i
  refine FK (λ i hi => ?_) (λ j hj => ?_)
  ·rw [EL hi]; exact h1 i hi
  ·rw [EX hj]; exact h2 j hj
theorem Rm (h : AC N = 0) {i : Nat} (hi : i < N.r.length) : gD (OE N) i = (CX (AB N) i).getD default := by
 obtain ⟨h2, _⟩ := BD h
 obtain ⟨l1, l2, l3⟩ := GP h2
 unfold OE
 have : gD ((NL (AB N)).take (AB N).nR) i = gD (NL (AB N)) i := by
  simp only [gD, List.getD_eq_getElem?_getD]; rw [List.getElem?_take_of_lt (by omega)]
 rw [this]; exact BZ (λ (i : Nat) => (CX (AB N) i).getD default) (by omega)
theorem Zj (h : AC N = 0) {j : Nat} (hj : j < N.g.length) : gD (TN N) j = (CX (AB N) ((N.r.length + j : Nat) : Int)).getD default := by
 obtain ⟨h2, _⟩ := BD h
 obtain ⟨l1, l2, l3⟩ := GP h2
 unfold TN
 have : gD ((NL (AB N)).drop (AB N).nR) j = gD (NL (AB N)) ((AB N).nR + j) := by
  simp only [gD, List.getD_eq_getElem?_getD, List.getElem?_drop]
 rw [this, l3]; exact BZ (λ (i : Nat) => (CX (AB N) i).getD default) (by omega)
theorem Pd (h : AC N = 0) : (OE N).length = N.r.length /\ (TN N).length = N.g.length := by
 obtain ⟨h2, _⟩ := BD h
 obtain ⟨l1, l2, l3⟩ := GP h2
 constructor
 ·simp [OE, NL]; omega
 ·simp [TN, NL]; omega
structure IsSpan (N : NetL) (f : TruthL -> Int) (s : Span) : Prop where
 lo : ∃ T, Can N T /\ f T = s.lo
 hi : ∃ T, Can N T /\ f T = s.hi
 all : ∀ T, Can N T -> s.lo <= f T /\ f T <= s.hi
theorem IsSpan.uniq {f : TruthL -> Int} {s t : Span} (h : IsSpan N f s) (k : IsSpan N f t) : s = t := by
 obtain ⟨T1, c1, e1⟩ := h.lo
 obtain ⟨T2, c2, e2⟩ := h.hi
 obtain ⟨T3, c3, e3⟩ := k.lo
 obtain ⟨T4, c4, e4⟩ := k.hi
 have := k.all T1 c1
 have := k.all T2 c2
 have := h.all T3 c3
 have := h.all T4 c4
 obtain ⟨a, b⟩ := s
 obtain ⟨c, d⟩ := t
 simp only at *
 rw [show a = c by omega, show b = d by omega]
theorem IsSpan.le {f : TruthL -> Int} {s : Span} (h : IsSpan N f s) : s.lo <= s.hi := by
 obtain ⟨T1, c1, e1⟩ := h.lo
 have := h.all T1 c1
 omega
theorem Dh (h : AC N = 0) (hc : BK N = 0) {i : Nat} (hi : i < N.r.length + N.g.length) : (CX (AB N) i).isSome = true /\ IsSpan N (λ T => (gD (AP N T).all i).now) ((CX (AB N) i).getD default) := by
 obtain ⟨h2, π, hs⟩ := BD h
 obtain ⟨l1, l2, l3⟩ := GP h2
 obtain ⟨s, dl, dh, e, ⟨il, al, nl⟩, ⟨ih, ah, nh⟩, ha⟩ := Xn h (by omega) (i := i) (by omega)
 rw [e]
 have hL := hs.like
 refine ⟨rfl, ⟨AL dl, Jq h (hL.trans al) il, ?_⟩, ⟨AL dh, Jq h (hL.trans ah) ih, ?_⟩, λ T hT => ?_⟩
 ·show (gD (AP N (AL dl)).all i).now = s.lo
  rw [GV (hL.trans al)]; exact nl
 ·show (gD (AP N (AL dh)).all i).now = s.hi
  rw [GV (hL.trans ah)]; exact nh
 ·obtain ⟨i1, a1⟩ := SB hT
  exact ha _ i1 (IK hL a1)
theorem Sz (h : AC N = 0) (hc : BK N = 0) : ∀ i : Nat, i < (AB N).all.length -> (CX (AB N) i).isSome = true := λ i hi => by
 obtain ⟨h2, _⟩ := BD h
 obtain ⟨l1, l2, l3⟩ := GP h2
 exact (Dh h hc (by omega)).1
theorem He (h : AC N = 0) (hc : BK N = 0) {i : Nat} (hi : i < N.r.length) : IsSpan N (λ T => gD T.f i) (gD (OE N) i) := by
 have := (Dh h hc (i := i) (by omega)).2
 rw [<- Rm h hi] at this
 have e : (λ T => (gD (AP N T).all i).now) = λ T => gD T.f i := by funext T; rw [EL hi]
 rw [e] at this; exact this
end Go.Bal
