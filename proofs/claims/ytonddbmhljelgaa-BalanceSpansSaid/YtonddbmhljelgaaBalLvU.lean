/- The reference: its suspects and spans are those that are returned. -/
import Derived.Test.YtonddbmhljelgaaBalLvT
import Derived.Test.YtonddbmhljelgaaBalT20
set_option linter.unusedVariables false
set_option linter.unusedSimpArgs false
namespace Go.Bal
open Go
variable {N : NetL} {T : TruthL}
theorem Lf {π : Int -> Int} {l m : List Way} {k : Nat} (hl : l.length = m.length) (h : ∀ i, i < l.length -> i ≠ k -> BG π (gD m i) = BG π (gD l i) /\ (gD m i).sp = (gD l i).sp) : JI π m k = JI π l k := by
 unfold JI
 rw [hl]
 exact AX λ i hi => by
  by_cases he : i = k
  ·rw [if_pos he, if_pos he]
  ·obtain ⟨a, b⟩ := h i (by omega) he
   rw [if_neg he, if_neg he, a, b]
theorem Ji {π ρ : Int -> Int} {l : List Way} {k : Nat} (h : ∀ i, i < l.length -> BG π (gD l i) = BG ρ (gD l i)) : JI π l k = JI ρ l k := by
 unfold JI
 exact AX λ i hi => by rw [h i hi]
def NX (N : NetL) (π : Int -> Int) : List Int := (List.range N.g.length).map λ (j : Nat) => π N.g.length - π j
theorem XM (N : NetL) (π : Int -> Int) : (NX N π).length = N.g.length := by simp [NX]
theorem OK {π : Int -> Int} {j : Nat} (hj : j < N.g.length) : gD (NX N π) j = π N.g.length - π j := BZ (λ (j : Nat) => π N.g.length - π j) hj
theorem SN {π : Int -> Int} {v : Int} (h0 : 0 <= v) (h1 : v <= N.g.length) : OG (NX N π) v = π v - π N.g.length := by
 unfold OG
 rw [XM]
 by_cases hv : v < N.g.length
 ·rw [if_pos ⟨h0, hv⟩, OK (by omega), show ((v.toNat : Nat) : Int) = v by omega]; omega
 ·rw [if_neg (by omega), show v = N.g.length by omega]; omega
theorem Pi (hg : Good N) {π : Int -> Int} (h1 : ∀ j : Nat, j < N.g.length -> -1 <= π N.g.length - π j /\ π N.g.length - π j <= 1) (h2 : ∀ i, i < N.r.length -> -1 <= π (gD N.r i).fr - π (gD N.r i).to /\ π (gD N.r i).fr - π (gD N.r i).to <= 1) : HA N (NX N π) = true := by
 have hl := XM N π
 have hb : ∀ i, i < (NX N π).length -> -1 <= gD (NX N π) i /\ gD (NX N π) i <= 1 := λ i hi => by
  rw [OK (by omega)]; exact h1 i (by omega)
 refine FW.2 ⟨hl, hb, λ i hi => ?_⟩
 obtain ⟨_, b1, b2, b3⟩ := hg.r i hi
 have e := LW hg hl hb hi
 rw [SN b1.1 (by omega), SN b2.1 (by omega)] at e
 have := h2 i hi
 omega
theorem Qb (hg : Good N) {lv : List Int} (hl : lv.length = N.g.length) (hb : ∀ j, j < N.g.length -> -1 <= gD lv j /\ gD lv j <= 1) {k : Nat} (hk : k < N.r.length) {d : Desk} (hd : Alike (AJ (CA N k)) d) : KN ⟨N, lv, AV N, 0, (k : Int)⟩ N.g.length = JI (OG lv) d.all k := by
 have h14 := hg.r14
 have h8 := hg.g8
 have hd0 := Alike.refl (AJ N)
 obtain ⟨a1, a2, a3⟩ := EN hd0
 obtain ⟨b1, b2, b3⟩ := EN hd
 rw [CQ] at b1 b2 b3
 have eg : (CA N k).g = N.g := rfl
 rw [eg] at b1 b3
 rw [Jh hg hl hb (k := k) (by omega) (λ i hi => by omega) (λ j hj => by omega) hd0]
 symm
 refine Lf (by omega) λ i hi hne => ?_
 rw [a1] at hi
 revert i
 refine FK (λ i hi hne => ?_) (λ j hj hne => ?_)
 ·obtain ⟨p1, p2, p3⟩ := a2 i hi
  obtain ⟨q1, q2, q3⟩ := b2 i hi
  have e : gD (CA N k).r i = if i = k then { (gD N.r k) with sp := wide } else gD N.r i := BB hk i
  rw [e, if_neg hne] at q1 q2 q3
  unfold BG
  rw [p1, p2, p3, q1, q2, q3]; exact ⟨rfl, rfl⟩
 ·obtain ⟨p1, p2, p3⟩ := a3 j hj
  obtain ⟨q1, q2, q3⟩ := b3 j hj
  unfold BG
  rw [p1, p2, p3, q1, q2, q3]; exact ⟨rfl, rfl⟩
theorem Xm {k : Nat} (hg : Good N) (hk : k < N.r.length) (hT : CanX N k T) : InS (AP (CA N k) T) := by
 have hw := En hg hk
 obtain ⟨z1, z2⟩ := Pk hg hk hT
 refine ⟨(OU hw).ok, λ i hi => ?_, λ i hi => Cr z2 hi, z1⟩
 rw [BT] at hi
 revert i
 refine FK (λ i hi => ?_) (λ j hj => ?_)
 ·rw [EL hi]; have := (hw.r i hi).1; simp only; omega
 ·rw [EX hj]; have := hw.g j hj; simp only; omega
theorem Va (h : AC N = 0) {k : Nat} (hk : k < N.r.length) : Zw N k = TP N k := by
 have hg := AS h
 have h14 := hg.r14
 have rE : ∀ q, Gg N ⟨k, q⟩ = KY (gD (AQ N) q) (gD N.r k) := λ q => rfl
 have pE : ∀ q, QE N q k = KN ⟨N, gD (AQ N) q, AV N, 0, (k : Int)⟩ N.g.length := λ q => rfl
 have bdd : ∀ q, q < (AQ N).length -> Gg N ⟨k, q⟩ = 1 -> -1000000000000 <= QE N q k /\ QE N q k <= 1000000000000 := λ q hq _ => by
  have := Un h hq (s := (k : Int)) (by omega); omega
 obtain ⟨l1, l2, l3⟩ := VR ⟨-100000000, 100000000⟩ (rise := λ q => Gg N ⟨k, q⟩) (rest := λ q => QE N q k) (K := (AQ N).length)
 obtain ⟨u1, u2, u3⟩ := WU ⟨-100000000, 100000000⟩ (rise := λ q => Gg N ⟨k, q⟩) (rest := λ q => QE N q k) (K := (AQ N).length) bdd
 rw [<- Qo] at l1 l2 l3 u1 u2 u3
 simp only at l1 l2 l3 u1 u2 u3
 rw [Bool.eq_iff_iff, Ks h hk]
 have hB : Zw N k = true ↔ (∀ q, q < (AQ N).length -> Gg N ⟨k, q⟩ = 0 -> QE N q k <= 0) /\ (Gr N k (AQ N).length).lo <= (Gr N k (AQ N).length).hi := by
  unfold Zw; rw [Bool.and_eq_true, Ri, decide_eq_true_eq]
 rw [hB]
 constructor
 ·rintro ⟨f1, f2⟩
  refine (Ks h hk).1 ?_
  obtain ⟨_, π, s1, s2, s3, s4⟩ := Bj h hk
  unfold TP
  rw [s4, decide_eq_true_eq]
  have hnn : 0 <= JK (CB N k).all := GR λ w _ => by unfold LQ; omega
  refine Classical.byContradiction λ hne => ?_
  have hout : (CB N k).out = N.g.length := s3.out
  obtain ⟨rf, r1, r2, r3, r4⟩ := Qz s1 (by omega) (o := (N.g.length : Int)) (by rw [hout]; omega)
  obtain ⟨π', hπ⟩ : ∃ π' : Int -> Int, π' = λ v => (rf.m.far v).cost := ⟨_, rfl⟩
  rw [<- hπ] at r4
  have r3 : π' N.g.length = 0 := by rw [hπ]; exact r3
  obtain ⟨e1, e2, e3⟩ := EN s3
  rw [CQ] at e1 e2 e3
  have eg : (CA N k).g = N.g := rfl
  rw [eg] at e1 e3
  have er : ∀ i, gD (CA N k).r i = if i = k then { (gD N.r k) with sp := wide } else gD N.r i := λ i => BB hk i
  have ends : ∀ i, i < N.r.length -> (gD (CB N k).all i).fr = (gD N.r i).fr /\ (gD (CB N k).all i).to = (gD N.r i).to := λ i hi => by
   obtain ⟨_, q2, q3⟩ := e2 i hi
   rw [er] at q2 q3
   by_cases he : i = k
   ·subst he; rw [if_pos rfl] at q2 q3; exact ⟨q2, q3⟩
   ·rw [if_neg he] at q2 q3; exact ⟨q2, q3⟩
  have opt := r4.opt
  have hr : ∀ i, i < (CB N k).all.length -> -1 <= BG π' (gD (CB N k).all i) /\ BG π' (gD (CB N k).all i) <= 1 := λ i hi => by
   have := opt i hi
   unfold Ew at this; unfold BG; omega
  have hv : HA N (NX N π') = true := Pi hg (λ j hj => by
   have := hr (N.r.length + j) (by omega)
   obtain ⟨_, q2, q3⟩ := e3 j hj
   unfold BG at this
   rw [q2, q3] at this; omega) λ i hi => by
   have := hr i (by omega)
   unfold BG at this
   rw [(ends i hi).1, (ends i hi).2] at this; omega
  obtain ⟨q, hq, he⟩ := WP ((XB h _).2 hv)
  obtain ⟨vl, vb⟩ := HC hv
  have hpi : ∀ v : Int, 0 <= v -> v <= N.g.length -> OG (NX N π') v = π' v := λ v h0 h1 => by rw [SN h0 h1, r3]; omega
  have hrw : ∀ i, i < (CB N k).all.length -> BG (OG (NX N π')) (gD (CB N k).all i) = BG π' (gD (CB N k).all i) := λ i hi => by
   have := r4.lay.mem (JG hi)
   unfold BG
   rw [hpi _ (by omega) (by omega), hpi _ (by omega) (by omega)]
  have hlow : JK (CB N k).all = HR π' (CB N k).all := (Fw r4 s2 (Alike.refl _) s2).1
  have hki : k < (CB N k).all.length := by omega
  have hsum : HR π' (CB N k).all = JI π' (CB N k).all k + OF (BG π' (gD (CB N k).all k)) (gD (CB N k).all k).sp := by
   rw [<- Lt]
   unfold JI
   rw [Bf (k := k) (f := λ i => if i = (CB N k).all.length then 0 else OF (BG π' (gD (CB N k).all i)) (gD (CB N k).all i).sp) hki, if_neg (show ¬ k = (CB N k).all.length by omega)]
   congr 1
   exact AX λ i hi => by
    by_cases he : i = k
    ·simp [he]
    ·simp only [if_neg he]; rw [if_neg (by omega)]
  have hX : JI (OG (NX N π')) (CB N k).all k = JI π' (CB N k).all k := Ji hrw
  have hp : QE N q k = JI π' (CB N k).all k := by rw [pE, he, Qb hg vl vb hk s3, hX]
  have hrise : KY (NX N π') (gD N.r k) = -(BG π' (gD (CB N k).all k)) := by
   have e := LW hg vl (by rw [vl]; exact vb) hk
   rw [<- hrw k hki]
   unfold BG
   rw [(ends k hk).1, (ends k hk).2]; omega
  have hsp : (gD (CB N k).all k).sp = ⟨-100000000, 100000000⟩ := by
   have := (e2 k hk).1
   rw [er, if_pos rfl] at this; rw [this]; rfl
  have hR := rE q
  rw [he, hrise] at hR
  rw [hsp] at hsum
  have hbk := hr k hki
  have hcase : BG π' (gD (CB N k).all k) = 0 ∨ BG π' (gD (CB N k).all k) = 1 ∨ BG π' (gD (CB N k).all k) = -1 := by omega
  rcases hcase with hc | hc | hc
  ·rw [hc] at hR hsum
   have := f1 q hq (by omega)
   unfold OF at hsum
   rw [if_neg (by omega), if_neg (by omega)] at hsum
   omega
  ·rw [hc] at hR hsum
   have := l2 q hq (by omega)
   unfold OF at hsum
   rw [if_pos rfl] at hsum
   simp only at hsum
   omega
  ·rw [hc] at hR hsum
   have := u2 q hq (by omega)
   unfold OF at hsum
   rw [if_neg (by omega), if_pos rfl] at hsum
   simp only at hsum
   omega
 ·rintro ⟨T, hT⟩
  have hin := Xm hg hk hT
  have hw := En hg hk
  have hlen : (AP (CA N k) T).all.length = N.r.length + N.g.length := by rw [BT, CQ]; rfl
  have er : ∀ i, gD (CA N k).r i = if i = k then { (gD N.r k) with sp := wide } else gD N.r i := λ i => BB hk i
  have wk : gD (AP (CA N k) T).all k = ⟨(gD N.r k).fr, (gD N.r k).to, wide, gD T.f k⟩ := by
   rw [EL (by rw [CQ]; exact hk), er, if_pos rfl]
  have key : ∀ q, q < (AQ N).length -> QE N q k <= -(Gg N ⟨k, q⟩) * gD T.f k := λ q hq => by
   have hv := PN h hq
   obtain ⟨vl, vb⟩ := HC hv
   obtain ⟨_, _, v3⟩ := FW.1 hv
   have vb' : ∀ i, i < (gD (AQ N) q).length -> -1 <= gD (gD (AQ N) q) i /\ gD (gD (AQ N) q) i <= 1 := by rw [vl]; exact vb
   rw [pE, Qb hg vl vb hk (DJ (T := T)), rE]
   have := Hz hin (π := OG (gD (AQ N) q)) (k := k) (by omega) λ i hi hne => by
    rw [hlen] at hi
    revert i
    refine FK (λ i hi hne => ?_) (λ j hj hne => ?_)
    ·rw [EL (by rw [CQ]; exact hi), er, if_neg hne]
     have := v3 i hi
     have e := LW hg vl vb' hi
     unfold BG; simp only; omega
    ·have e := EX (N := CA N k) (T := T) (j := j) hj
     rw [CQ] at e
     rw [e]
     unfold BG OG
     have eg : (CA N k).g = N.g := rfl
     simp only [eg]
     have := vb j hj
     rw [if_pos (by omega), if_neg (by omega)]
     simp only [Int.toNat_natCast]; omega
   rw [wk] at this
   unfold BG at this
   simp only at this
   rw [<- LW hg vl vb' hk] at this
   exact this
  have hx := hT.k
  refine ⟨λ q hq h0 => ?_, ?_⟩
  ·have := key q hq
   rw [h0] at this; simpa using this
  ·have a : (Gr N k (AQ N).length).lo <= gD T.f k := by
    rcases l3 with l3 | ⟨q, hq, e1, e2⟩
    ·omega
    ·have := key q hq
     rw [e1] at this; omega
   have b : gD T.f k <= (Gr N k (AQ N).length).hi := by
    rcases u3 with u3 | ⟨q, hq, e1, e2⟩
    ·omega
    ·have := key q hq
     rw [e1] at this; omega
   omega
theorem Ys (N : NetL) : Mn N = HN N /\ Ts N = Ac N := by
 by_cases h : AC N = 0
 ·have hE : Mn N = HN N := by unfold Mn HN; rw [SP h]
  refine ⟨hE, ?_⟩
  unfold Ts Ac
  rw [hE]
  have : LP N N.r.length = BE N N.r.length := by
   unfold LP BE
   congr 1
   refine List.filter_congr λ i hi => ?_
   rw [List.mem_range] at hi
   exact Va h hi
  rw [this]
 ·have hE : Mn N = HN N := by unfold Mn HN; rw [if_neg h, if_neg h]
  have h2 : ¬ HN N = 0 := by unfold HN; rw [if_neg h]; exact h
  refine ⟨hE, ?_⟩
  unfold Ts Ac
  rw [hE, if_neg h2, if_neg h2]
def ZY (N : NetL) (k : Nat) : Span := (gD (AJ N).all k).sp
def XT (N : NetL) (k q : Nat) : Int := -(BG (OG (gD (AQ N) q)) (gD (AJ N).all k))
theorem Ka (h : AC N = 0) (hc : BK N = 0) {k : Nat} (hk : k < N.r.length + N.g.length) {s : Int} (hs : -1 <= s /\ s <= 1000) (hs1 : ∀ i, i < N.r.length -> ((i : Int) = s ↔ i = k)) (hs2 : ∀ j, j < N.g.length -> ((j : Int) = s - 100 ↔ N.r.length + j = k)) :
  HO (ZY N k) (XT N k) (λ q => QE N q s) (AQ N).length = (CX (AB N) k).getD default := by
 have hg := AS h
 have hd0 := Alike.refl (AJ N)
 have hlen0 : (AJ N).all.length = N.r.length + N.g.length := BJ N
 obtain ⟨_, hS⟩ := Dh h hc hk
 obtain ⟨c1, c2⟩ := Yo h hc hk
 obtain ⟨l1, l2, l3⟩ := VR (ZY N k) (rise := XT N k) (rest := λ q => QE N q s) (K := (AQ N).length)
 obtain ⟨u1, u2, u3⟩ := WU (ZY N k) (rise := XT N k) (rest := λ q => QE N q s) (K := (AQ N).length) λ q hq _ => by
  have := Un h hq hs; omega
 have pE : ∀ q, q < (AQ N).length -> QE N q s = JI (OG (gD (AQ N) q)) (AJ N).all k := λ q hq => by
  obtain ⟨vl, vb⟩ := HC (PN h hq)
  exact Jh hg vl vb hs hs1 hs2 hd0
 have key : ∀ T, Can N T -> (ZY N k).lo <= (gD (AP N T).all k).now /\ (gD (AP N T).all k).now <= (ZY N k).hi /\ ∀ q, q < (AQ N).length -> QE N q s <= -(XT N k q) * (gD (AP N T).all k).now := λ T hT => by
  obtain ⟨i1, a1⟩ := SB hT
  obtain ⟨w1, w2, w3⟩ := a1.way k (by omega)
  have hn := i1.now k (by rw [BT]; exact hk)
  rw [w3] at hn
  refine ⟨hn.1, hn.2, λ q hq => ?_⟩
  have hv := PN h hq
  obtain ⟨vl, vb⟩ := HC hv
  obtain ⟨_, _, v3⟩ := FW.1 hv
  have vb' : ∀ i, i < (gD (AQ N) q).length -> -1 <= gD (gD (AQ N) q) i /\ gD (gD (AQ N) q) i <= 1 := by rw [vl]; exact vb
  rw [pE q hq, <- XR a1]
  have := Hz i1 (π := OG (gD (AQ N) q)) (k := k) (by rw [BT]; exact hk) λ i hi _ => by
   rw [BT] at hi
   revert i
   refine FK (λ i hi => ?_) (λ j hj => ?_)
   ·rw [EL hi]
    have := v3 i hi
    have e := LW hg vl vb' hi
    unfold BG; simp only; omega
   ·rw [EX hj]
    unfold BG OG
    have := vb j hj
    simp only
    rw [if_pos (by omega), if_neg (by omega)]
    simp only [Int.toNat_natCast]; omega
  have e : BG (OG (gD (AQ N) q)) (gD (AP N T).all k) = -(XT N k q) := by
   unfold XT BG; rw [w1, w2]; omega
  rw [e] at this
  exact this
 have cut : ∀ π : Int -> Int, (∀ v, π v = 0 ∨ π v = -1) -> ∃ q, q < (AQ N).length /\ XT N k q = -(BG π (gD (AJ N).all k)) /\ QE N q s = JI π (AJ N).all k := λ π hπ => by
  have df : ∀ a b, -1 <= π a - π b /\ π a - π b <= 1 := λ a b => by
   rcases hπ a with h1 | h1 <;> rcases hπ b with h2 | h2 <;> omega
  obtain ⟨q, hq, he⟩ := WP ((XB h _).2 (Pi hg (π := π) (λ j _ => df _ _) λ i _ => df _ _))
  have hrw : ∀ i, i < (AJ N).all.length -> BG (OG (NX N π)) (gD (AJ N).all i) = BG π (gD (AJ N).all i) := λ i hi => by
   have := (MG hg).mem (JG hi)
   have ho : (AJ N).out = N.g.length := rfl
   unfold BG
   rw [SN (by omega) (by omega), SN (by omega) (by omega)]; omega
  refine ⟨q, hq, ?_, ?_⟩
  ·unfold XT; rw [he, hrw k (by omega)]
  ·rw [pE q hq, he]; exact Ji hrw
 have hlo : (HO (ZY N k) (XT N k) (λ q => QE N q s) (AQ N).length).lo = ((CX (AB N) k).getD default).lo := by
  refine Int.le_antisymm ?_ ?_
  ·obtain ⟨T, hT, e⟩ := hS.lo
   obtain ⟨k1, k2, k3⟩ := key T hT
   rw [<- e]
   rcases l3 with l3 | ⟨q, hq, e1, e2⟩
   ·omega
   ·have := k3 q hq
    rw [e1] at this; omega
  ·rcases c1 with c1 | ⟨π, q1, q2, q3⟩
   ·simp only [Bool.false_eq_true, if_false] at c1
    have e : (gD (AJ N).all k).sp = ZY N k := rfl
    rw [c1, e]; exact l1
   ·simp only [Bool.false_eq_true, if_false] at q2 q3
    obtain ⟨q, hq, e1, e2⟩ := cut π q1
    have := l2 q hq (by omega)
    omega
 have hhi : (HO (ZY N k) (XT N k) (λ q => QE N q s) (AQ N).length).hi = ((CX (AB N) k).getD default).hi := by
  refine Int.le_antisymm ?_ ?_
  ·rcases c2 with c2 | ⟨π, q1, q2, q3⟩
   ·simp only [if_true] at c2
    have e : (gD (AJ N).all k).sp = ZY N k := rfl
    rw [c2, e]; exact u1
   ·simp only [if_true] at q2 q3
    obtain ⟨q, hq, e1, e2⟩ := cut π q1
    have := u2 q hq (by omega)
    omega
  ·obtain ⟨T, hT, e⟩ := hS.hi
   obtain ⟨k1, k2, k3⟩ := key T hT
   rw [<- e]
   rcases u3 with u3 | ⟨q, hq, e1, e2⟩
   ·omega
   ·have := k3 q hq
    rw [e1] at this; omega
 cases hx : HO (ZY N k) (XT N k) (λ q => QE N q s) (AQ N).length with | mk a b =>
 cases hy : (CX (AB N) k).getD default with | mk c e =>
 rw [hx, hy] at hlo hhi
 simp only at hlo hhi
 rw [hlo, hhi]
end Go.Bal

namespace Go.Bal
open Go Go.Sym Go.Proofs
def Jf (N : NetL) : Bool := decide (N.g.length > 6) && decide (N.g.length < 9) || decide (N.g.length > 10) || (decide (N.r.length > 10) && decide (N.r.length < 15)) || decide (N.r.length > 17)
def C13 : Ctr := { α := NetL, xs := Yg, val := λ N => .bool (Jf N) }
def V13 (N : NetL) : Prop := BC Try.prog (ann 37 []) Try.f13 (AH Try.f13) (C13.xs N) (AE []) (C13.val N) (C13.keep N) [] []
theorem vc13 (N : NetL) : (V13 N) = (Jf N = bif bif bif bif decide ((↑N.g.length : Int) > 6) then decide ((↑N.g.length : Int) < 9) else false then true else decide ((↑N.g.length : Int) > 10) then true else bif decide
 ((↑N.r.length : Int) > 10) then decide ((↑N.r.length : Int) < 15) else false then true else decide ((↑N.r.length : Int) > 17)) := by kernel_rfl
theorem p13 (N : NetL) : V13 N := by
 rw [vc13]
 unfold Jf
 have q1 : decide ((N.g.length : Int) > 6) = decide (N.g.length > 6) := by rw [decide_eq_decide]; omega
 have q2 : decide ((N.g.length : Int) < 9) = decide (N.g.length < 9) := by rw [decide_eq_decide]; omega
 have q3 : decide ((N.g.length : Int) > 10) = decide (N.g.length > 10) := by rw [decide_eq_decide]; omega
 have q4 : decide ((N.r.length : Int) > 10) = decide (N.r.length > 10) := by rw [decide_eq_decide]; omega
 have q5 : decide ((N.r.length : Int) < 15) = decide (N.r.length < 15) := by rw [decide_eq_decide]; omega
 have q6 : decide ((N.r.length : Int) > 17) = decide (N.r.length > 17) := by rw [decide_eq_decide]; omega
 simp only [q1, q2, q3, q4, q5, q6]
 cases decide (N.g.length > 6) <;> cases decide (N.g.length < 9) <;> cases decide (N.g.length > 10) <;> cases decide (N.r.length > 10) <;> cases decide (N.r.length < 15) <;> cases decide (N.r.length > 17) <;> simp
theorem ok13 : AI Try.prog 13 (C13.spec dN) := HQ C13 (λ _ => ann 37 []) [] [] Try.func13 (λ _ => by kernel_rfl) (λ _ => AF) (λ N _ => p13 N) (λ _ => IL rfl rfl) _
def A3 := ann 184 [(13, C13.spec dN), (14, s14), (15, C15.spec QO), (16, C16.spec d16), (17, C17.spec d17), (18, C18.spec dN), (19, C19t.spec dN), (20, C20t.spec dN), (21, C21t.spec dN), (22, C42.spec d42), (23, C23.spec dP), (24, C24.spec dP), (25, C25t.spec dN), (26, C26.spec dN), (27, C27.spec d27), (28, C28.spec d28)]
def V3 (a : NPL) : Prop := BC Try.prog A3 Try.f3 (AH Try.f3) (Yt a) (AE []) (.bool true) [] [] []
theorem vc3 (a : NPL) : (V3 a) = (let q := a
 let y0 : List Span := AD q.N.g.length λ (i : Nat) => gD q.N.g i
 let y1 := y0.length
 let y2 := y1 = q.N.g.length
 let y3 (i : Nat) : Span := gD y0 i
 let y4 (i : Nat) := (y3 i).lo
 let y5 (i : Nat) := (y3 i).hi
 let y6 := ∀ (i : Nat), i < y1 -> y4 i = (gD q.N.g i).lo /\ y5 i = (gD q.N.g i).hi
 let y7 : List Reach := AD q.N.r.length λ (i : Nat) => gD q.N.r i
 let y8 := y7.length
 let y9 := y8 = q.N.r.length
 let y10 (i : Nat) : Reach := gD y7 i
 let y11 (i : Nat) := (y10 i).fr
 let y12 (i : Nat) := (y10 i).to
 let y13 (i : Nat) : Span := (y10 i).sp
 let y14 (i : Nat) := (y13 i).lo
 let y15 (i : Nat) := (y13 i).hi
 let y16 := ∀ (i : Nat), i < y8 -> y11 i = (gD q.N.r i).fr /\ y12 i = (gD q.N.r i).to /\ y14 i = (gD q.N.r i).sp.lo /\ y15 i = (gD q.N.r i).sp.hi
 let y17 : NetL := NetL.mk y0 y7
 let y18 := y1 <= 1000000
 let y19 := y8 <= 1000000
 let y20 : List Int := AD q.lv.length λ (i : Nat) => gD q.lv i
 let y21 := y20.length
 let y22 := y21 = q.lv.length
 let y23 (i : Nat) := gD y20 i
 let y24 := ∀ (i : Nat), i < y21 -> y23 i = gD q.lv i
 let y25 : List Span := AD y1 λ (i : Nat) => y3 i
 let y26 := y25.length
 let y27 := y26 = y1
 let y28 (i : Nat) : Span := gD y25 i
 let y29 := ∀ (i : Nat), i < y26 -> (y28 i).lo = y4 i /\ (y28 i).hi = y5 i
 let y30 : List Reach := AD y8 λ (i : Nat) => y10 i
 let y31 := y30.length
 let y32 := y31 = y8
 let y33 (i : Nat) : Reach := gD y30 i
 let y34 (i : Nat) : Span := (y33 i).sp
 let y35 := ∀ (i : Nat), i < y31 -> (y33 i).fr = y11 i /\ (y33 i).to = y12 i /\ (y34 i).lo = y14 i /\ (y34 i).hi = y15 i
 let y36 := y26 <= 1000000 /\ y31 <= 1000000
 let y37 := y27 /\ y29 /\ y32 /\ y35 /\ y36
 let y38 := y27 /\ y29 /\ y32 /\ y35
 let y39 : NetL := NetL.mk y25 y30
 let y40 := AC y39
 let y41 := y40 != y40
 let y42 := y40 == 0
 let y43 := BU y39
 let y44 : TruthL := Mh y39
 let y45 : List Int := y44.f
 let y46 := y45.length
 let y47 : List Int := y44.t
 let y48 := y47.length
 let y49 : List Int := Mm y39
 let y50 := y49.length
 let y51 (i : Nat) := gD y45 i
 let y52 : List Int := AD y46 λ (i : Nat) => y51 i
 let y53 := y52.length
 let y54 (i : Nat) := gD y47 i
 let y55 : List Int := AD y48 λ (i : Nat) => y54 i
 let y56 := y55.length
 let y57 : TruthL := TruthL.mk y52 y55
 let y58 (i : Nat) := gD y49 i
 let y59 : List Int := AD y50 λ (i : Nat) => y58 i
 let y60 := y59.length
 let y61 := DW (NPL.mk y39 y43 y59)
 let y62 : List Bool := AV y39
 let y63 : List Int := AD y21 λ (i : Nat) => y23 i
 let y64 := y63.length
 let y65 := y64 = y21
 let y66 := ∀ (i : Nat), i < y64 -> gD y63 i = y23 i
 let y67 := DW (NPL.mk y39 q.price y63)
 let y68 := DW (NPL.mk y39 q.price y20)
 let y69 := HN y39 == Mn y39
 let y70 : List Int := Ac y39
 let y71 := y70.length
 let y72 (i : Nat) := gD y70 i
 let y73 : List Int := AD y71 λ (i : Nat) => y72 i
 let y74 := y73.length
 let y75 : List Int := Ts y39
 let y76 := y75.length
 let y77 (i : Nat) := gD y75 i
 let y78 : List Int := AD y76 λ (i : Nat) => y77 i
 let y79 := y78.length
 let y80 := bif y69 then decide (y73 = y78) else false
 let y81 := bif y80 then decide (y39 = y17) else false
 let y82 := (y27 /\ y29 /\ y32 /\ y35 /\ q.price = q.price /\ y65 /\ y66 /\ y64.succ.le 4611686018427387904) /\ (y27 /\ y29 /\ y32 /\ y35 /\ q.price = q.price /\ y22 /\ y24 /\ y21 < 4611686018427387904 /\ y36) /\ bif bif y67 != y68 then true else !(decide (y67 = 0) && decide (q.price <= HE y39 y63)) == (decide (y68 = 0) && decide (q.price <= KN (PvA.mk y39 y20 y62 0 (-1)) y26)) then true = false else y38 /\ y37 /\ ((y69 = true -> y74 = y71 /\ (∀ (i : Nat), i < y74 -> gD y73 i = y72 i) /\ y79 = y76 /\ (∀ (i : Nat), i < y79 -> gD y78 i = y77 i) /\ y74 < 4611686018427387904 /\ y79.succ.le 4611686018427387904) /\ (y80 = true -> y27 /\ y29 /\ y32 /\ y35 /\ y2 /\ y6 /\ y9 /\ y16 /\ y36 /\ y18 /\ y19) /\ (y81 = true -> y65 /\ y66 /\ y22 /\ y24 /\ y64 < 4611686018427387904 /\ y21.succ.le 4611686018427387904)) /\ true = bif bif y81 then decide (y63 = y20) else false then true else false
 ((y2 /\ y6 /\ y9 /\ y16) /\ bif bif Jf y17 then true else decide ((↑a.lv.length : Int) > 12) then true = true else (y2 /\ y6 /\ y9 /\ y16 /\ y18 /\
 y19 /\ y22 /\ y24 /\ y21.le 1000000) /\ (y2 /\ y6 /\ y9 /\ y16 /\ y18 /\ y8.le 1000000) /\ y37 /\ y38 /\ bif bif y41 then true else !Fa y39 == bif y42 then y43
 == 0 else false then true = false else y38 /\ y38 /\ bif bif bif bif y41 then true else y41 then true else Fd y39 != y43 then true else bif y40 != 0 then decide (IntKind.i64.wrap
 (IntKind.i64.wrap ((↑y46 : Int) + (↑y48 : Int)) + (↑y50 : Int)) > 0) else false then true = false else bif y42 then (y27 /\ y29 /\ y32 /\ y35 /\ y53 = y46 /\ (∀ (i : Nat), i <
 y53 -> gD y52 i = y51 i) /\ y56 = y48 /\ (∀ (i : Nat), i < y56 -> gD y55 i = y54 i) /\ y36 /\ y53 <= 1000000 /\ y56 <= 1000000) /\ bif bif KS y39 y57 != 0 then true
 else RM y39 y57 != y43 then true = false else (y27 /\ y29 /\ y32 /\ y35 /\ y43 = y43 /\ y60 = y50 /\ (∀ (i : Nat), i < y60 -> gD y59 i = y58 i) /\ y60 <
 4611686018427387904 /\ y36) /\ bif bif y61 != 0 then true else !(decide (y61 = 0) && decide (y43 <= KN (PvA.mk y39 y59 y62 0 (-1)) y26)) then true = false else y82 else y82)
) := by kernel_rfl
theorem Pg (N : NetL) (p : Int) (lv : List Int) : (decide (DW ⟨N, p, lv⟩ = 0) && decide (p <= KN ⟨N, lv, AV N, 0, -1⟩ N.g.length)) = (decide (DW ⟨N, p, lv⟩ = 0) && decide (p <= HE N lv)) := by
 by_cases h : DW ⟨N, p, lv⟩ = 0
 ·have hc : AC N = 0 := by
   unfold DW at h; simp only at h
   by_cases hc : AC N = 0
   ·exact hc
   ·rw [if_neg hc] at h; exact h
  have hv : HA N lv = true := by
   unfold DW at h; simp only at h
   rw [if_pos hc] at h
   cases hv : HA N lv with
   | true => rfl
   | false => rw [hv] at h; simp at h
  obtain ⟨a, b⟩ := HC hv
  rw [YE (AS hc) a b]
 ·rw [decide_eq_false h]; rfl
theorem Vb (N : NetL) : (Ac N).length <= N.r.length := by
 unfold Ac
 split
 ·unfold BE
  rw [List.length_map]
  have := List.length_filter_le (λ i => TP N i) (List.range N.r.length)
  rw [List.length_range] at this; exact this
 ·simp
theorem ABB {N : NetL} {n : Nat} (h : (bif Jf N then true else decide ((n : Int) > 12)) = false) : N.g.length <= 10 /\ N.r.length <= 17 /\ n <= 12 := by
 unfold Jf at h
 by_cases a : N.g.length > 10
 ·simp [a] at h
 ·by_cases b : N.r.length > 17
  ·simp [b] at h
  ·by_cases c : (n : Int) > 12
   ·simp [c] at h
   ·omega
theorem p3 (a : NPL) : V3 a := by
 obtain ⟨N, p, lv⟩ := a
 have et : NetL.mk N.g N.r = N := rfl
 have ets : ∀ T : TruthL, TruthL.mk T.f T.t = T := λ _ => rfl
 rw [vc3]; (conv => zeta); simp only [CC, eq_self, implies_true, forall_const, et, ets]
 intro hb
 obtain ⟨s1, s2, s3⟩ := ABB hb
 clear hb
 have sl := Vb N
 obtain ⟨q1, q2⟩ := Ys N
 rw [q1, q2, Tm, Pg N p lv, Pg]
 have b1 : N.g.length <= 1000000 := by omega
 have b2 : N.r.length <= 1000000 := by omega
 have b3 : lv.length <= 1000000 := by omega
 have b4 : lv.length < 4611686018427387904 := by omega
 have b5 : (Ac N).length < 4611686018427387904 := by omega
 by_cases hc : AC N = 0
 ·obtain ⟨t1, t2, t3⟩ := Ii hc
  obtain ⟨_, u1, u2, _⟩ := NH t1
  obtain ⟨v1, v2⟩ := Pz hc
  have vl := (HC v1).1
  have e1 : Fd N = BK N := if_pos hc
  have e2 : Mh N = Ai N := if_pos hc
  have e3 : Mm N = JJ N := if_pos hc
  have e4 : KS N (Ai N) = 0 := by unfold KS; rw [if_pos t1, t2]; rfl
  have e5 : RM N (Ai N) = BK N := by unfold RM; rw [if_pos e4, t3]
  have e6 : DW ⟨N, BK N, JJ N⟩ = 0 := by unfold DW; simp only; rw [if_pos hc, v1]; rfl
  have e7 : Fa N = decide (BK N = 0) := by unfold Fa; rw [decide_eq_true hc]; rfl
  have b6 : (Ai N).f.length <= 1000000 := by omega
  have b7 : (Ai N).t.length <= 1000000 := by omega
  have b8 : (JJ N).length < 4611686018427387904 := by omega
  have e8 : (BK N == 0) = decide (BK N = 0) := by cases h : decide (BK N = 0) <;> simp_all
  rw [e1, e2, e3, e4, e5, e6, e7, hc, v2, e8]
  simp [b1, b2, b3, b4, b5, b6, b7, b8]
 ·have e1 : Fd N = 0 := if_neg hc
  have e2 : Mh N = zT := if_neg hc
  have e3 : Mm N = [] := if_neg hc
  have e7 : Fa N = false := by unfold Fa; rw [decide_eq_false hc]; rfl
  have z1 : zT.f.length = 0 := rfl
  have z2 : zT.t.length = 0 := rfl
  have wz : IntKind.i64.wrap (IntKind.i64.wrap (((0 : Nat) : Int) + ((0 : Nat) : Int)) + ((0 : Nat) : Int)) = 0 := by decide
  rw [e1, e2, e3, e7, z1, z2, List.length_nil, wz]
  simp [b1, b2, b3, b4, b5, hc]
theorem c3 (a : NPL) : FnT Try.prog 3 (Yt a) (AE []) (.bool true) [] :=
 NE (A := A3) (ren := []) (fz := []) Try.func3 (by kernel_rfl) (AA ok13 (AA ok14 (AA ok15 (AA ok16 (AA ok17 (AA ok18 (AA ABY (AA ACC (AA ABZ (AA ok22 (AA ok23 (AA ADA (AA ACG (AA ok26 (AA ok27 (AA ok28 AF)))))))))))))))) (p3 a)
end Go.Bal
