/- The reference: its suspects and spans are those that are returned. -/
import Derived.Test.YtonddbmhljelgaaBalLvT
import Derived.Test.YtonddbmhljelgaaBalT20
set_option linter.unusedVariables false
set_option linter.unusedSimpArgs false
namespace Go.Bal
open Go
variable {N : NetL} {T : TruthL}
theorem ARX {π : Int -> Int} {l m : List Way} {k : Nat} (hl : l.length = m.length) (h : ∀ i, i < l.length -> i ≠ k -> CJ π (gD m i) = CJ π (gD l i) /\ (gD m i).sp = (gD l i).sp) : El π m k = El π l k := by
 unfold El
 rw [hl]
 exact BQ λ i hi => by
  by_cases he : i = k
  ·rw [if_pos he, if_pos he]
  ·obtain ⟨a, b⟩ := h i (by omega) he
   rw [if_neg he, if_neg he, a, b]
theorem AMF {π ρ : Int -> Int} {l : List Way} {k : Nat} (h : ∀ i, i < l.length -> CJ π (gD l i) = CJ ρ (gD l i)) : El π l k = El ρ l k := by
 unfold El
 exact BQ λ i hi => by rw [h i hi]
def Wf (N : NetL) (π : Int -> Int) : List Int := (List.range N.g.length).map λ (j : Nat) => π N.g.length - π j
theorem zY (N : NetL) (π : Int -> Int) : (Wf N π).length = N.g.length := by simp [Wf]
theorem aB {π : Int -> Int} {j : Nat} (hj : j < N.g.length) : gD (Wf N π) j = π N.g.length - π j := DY (λ (j : Nat) => π N.g.length - π j) hj
theorem oS {π : Int -> Int} {v : Int} (h0 : 0 <= v) (h1 : v <= N.g.length) : Yk (Wf N π) v = π v - π N.g.length := by
 unfold Yk
 rw [zY]
 by_cases hv : v < N.g.length
 ·rw [if_pos ⟨h0, hv⟩, aB (by omega), show ((v.toNat : Nat) : Int) = v by omega]; omega
 ·rw [if_neg (by omega), show v = N.g.length by omega]; omega
theorem BCB (hg : Good N) {π : Int -> Int} (h1 : ∀ j : Nat, j < N.g.length -> -1 <= π N.g.length - π j /\ π N.g.length - π j <= 1) (h2 : ∀ i, i < N.r.length -> -1 <= π (gD N.r i).fr - π (gD N.r i).to /\ π (gD N.r i).fr - π (gD N.r i).to <= 1) : XM N (Wf N π) = true := by
 have hl := zY N π
 have hb : ∀ i, i < (Wf N π).length -> -1 <= gD (Wf N π) i /\ gD (Wf N π) i <= 1 := λ i hi => by
  rw [aB (by omega)]; exact h1 i (by omega)
 refine SQ.2 ⟨hl, hb, λ i hi => ?_⟩
 obtain ⟨_, b1, b2, b3⟩ := hg.r i hi
 have e := Pd hg hl hb hi
 rw [oS b1.1 (by omega), oS b2.1 (by omega)] at e
 have := h2 i hi
 omega
theorem BCF (hg : Good N) {lv : List Int} (hl : lv.length = N.g.length) (hb : ∀ j, j < N.g.length -> -1 <= gD lv j /\ gD lv j <= 1) {k : Nat} (hk : k < N.r.length) {d : Desk} (hd : Alike (AO (EZ N k)) d) : Pr ⟨N, lv, EL N, 0, (k : Int)⟩ N.g.length = El (Yk lv) d.all k := by
 have h14 := hg.r14
 have h8 := hg.g8
 have Gq := Alike.refl (AO N)
 obtain ⟨a1, a2, a3⟩ := OC Gq
 obtain ⟨b1, b2, b3⟩ := OC hd
 rw [GO] at b1 b2 b3
 have eg : (EZ N k).g = N.g := rfl
 rw [eg] at b1 b3
 rw [ALG hg hl hb (k := k) (by omega) (λ i hi => by omega) (λ j hj => by omega) Gq]
 symm
 refine ARX (by omega) λ i hi hne => ?_
 rw [a1] at hi
 revert i
 refine QQ (λ i hi hne => ?_) (λ j hj hne => ?_)
 ·obtain ⟨p1, p2, p3⟩ := a2 i hi
  obtain ⟨q1, q2, q3⟩ := b2 i hi
  have e : gD (EZ N k).r i = if i = k then { (gD N.r k) with sp := wide } else gD N.r i := BD hk i
  rw [e, if_neg hne] at q1 q2 q3
  unfold CJ
  rw [p1, p2, p3, q1, q2, q3]; exact ⟨rfl, rfl⟩
 ·obtain ⟨p1, p2, p3⟩ := a3 j hj
  obtain ⟨q1, q2, q3⟩ := b3 j hj
  unfold CJ
  rw [p1, p2, p3, q1, q2, q3]; exact ⟨rfl, rfl⟩
theorem BIR {k : Nat} (hg : Good N) (hk : k < N.r.length) (hT : CanX N k T) : InS (AV (EZ N k) T) := by
 have hw := ABP hg hk
 obtain ⟨z1, z2⟩ := BAQ hg hk hT
 refine ⟨(Ze hw).ok, λ i hi => ?_, λ i hi => Y2 z2 hi, z1⟩
 rw [EB] at hi
 revert i
 refine QQ (λ i hi => ?_) (λ j hj => ?_)
 ·rw [NK hi]; have := (hw.r i hi).1; simp only; omega
 ·rw [OU hj]; have := hw.g j hj; simp only; omega
theorem BES (h : AB N = 0) {k : Nat} (hk : k < N.r.length) : rsB N k = qS N k := by
 have hg := BB h
 have h14 := hg.r14
 have rE : ∀ q, rsR N ⟨k, q⟩ = Ll (gD (BS N) q) (gD N.r k) := λ q => rfl
 have pE : ∀ q, fY N q k = Pr ⟨N, gD (BS N) q, EL N, 0, (k : Int)⟩ N.g.length := λ q => rfl
 have bdd : ∀ q, q < (BS N).length -> rsR N ⟨k, q⟩ = 1 -> -1000000000000 <= fY N q k /\ fY N q k <= 1000000000000 := λ q hq _ => by
  have := BHM h hq (s := (k : Int)) (by omega); omega
 obtain ⟨l1, l2, l3⟩ := zD ⟨-100000000, 100000000⟩ (rise := λ q => rsR N ⟨k, q⟩) (rest := λ q => fY N q k) (K := (BS N).length)
 obtain ⟨u1, u2, u3⟩ := wB ⟨-100000000, 100000000⟩ (rise := λ q => rsR N ⟨k, q⟩) (rest := λ q => fY N q k) (K := (BS N).length) bdd
 rw [<- BBI] at l1 l2 l3 u1 u2 u3
 simp only at l1 l2 l3 u1 u2 u3
 rw [Bool.eq_iff_iff, APS h hk]
 have hB : rsB N k = true ↔ (∀ q, q < (BS N).length -> rsR N ⟨k, q⟩ = 0 -> fY N q k <= 0) /\ (rsS N k (BS N).length).lo <= (rsS N k (BS N).length).hi := by
  unfold rsB; rw [Bool.and_eq_true, AZO, decide_eq_true_eq]
 rw [hB]
 constructor
 ·rintro ⟨f1, f2⟩
  refine (APS h hk).1 ?_
  obtain ⟨_, π, s1, s2, s3, s4⟩ := ABE h hk
  unfold qS
  rw [s4, decide_eq_true_eq]
  have hnn : 0 <= Fe (EX N k).all := XP λ w _ => by unfold Ph; omega
  refine Classical.byContradiction λ hne => ?_
  have hout : (EX N k).out = N.g.length := s3.out
  obtain ⟨rf, r1, r2, r3, r4⟩ := BBL s1 (by omega) (o := (N.g.length : Int)) (by rw [hout]; omega)
  obtain ⟨π', hπ⟩ : ∃ π' : Int -> Int, π' = λ v => (rf.m.far v).cost := ⟨_, rfl⟩
  rw [<- hπ] at r4
  have r3 : π' N.g.length = 0 := by rw [hπ]; exact r3
  obtain ⟨e1, e2, e3⟩ := OC s3
  rw [GO] at e1 e2 e3
  have eg : (EZ N k).g = N.g := rfl
  rw [eg] at e1 e3
  have er : ∀ i, gD (EZ N k).r i = if i = k then { (gD N.r k) with sp := wide } else gD N.r i := λ i => BD hk i
  have ends : ∀ i, i < N.r.length -> (gD (EX N k).all i).fr = (gD N.r i).fr /\ (gD (EX N k).all i).to = (gD N.r i).to := λ i hi => by
   obtain ⟨_, q2, q3⟩ := e2 i hi
   rw [er] at q2 q3
   by_cases he : i = k
   ·subst he; rw [if_pos rfl] at q2 q3; exact ⟨q2, q3⟩
   ·rw [if_neg he] at q2 q3; exact ⟨q2, q3⟩
  have opt := r4.opt
  have hr : ∀ i, i < (EX N k).all.length -> -1 <= CJ π' (gD (EX N k).all i) /\ CJ π' (gD (EX N k).all i) <= 1 := λ i hi => by
   have := opt i hi
   unfold OptW at this; unfold CJ; omega
  have hv : XM N (Wf N π') = true := BCB hg (λ j hj => by
   have := hr (N.r.length + j) (by omega)
   obtain ⟨_, q2, q3⟩ := e3 j hj
   unfold CJ at this
   rw [q2, q3] at this; omega) λ i hi => by
   have := hr i (by omega)
   unfold CJ at this
   rw [(ends i hi).1, (ends i hi).2] at this; omega
  obtain ⟨q, hq, he⟩ := xF ((xA h _).2 hv)
  obtain ⟨vl, vb⟩ := XK hv
  have hpi : ∀ v : Int, 0 <= v -> v <= N.g.length -> Yk (Wf N π') v = π' v := λ v h0 h1 => by rw [oS h0 h1, r3]; omega
  have hrw : ∀ i, i < (EX N k).all.length -> CJ (Yk (Wf N π')) (gD (EX N k).all i) = CJ π' (gD (EX N k).all i) := λ i hi => by
   have := r4.lay.mem (Fi hi)
   unfold CJ
   rw [hpi _ (by omega) (by omega), hpi _ (by omega) (by omega)]
  have hlow : Fe (EX N k).all = YO π' (EX N k).all := (AKL r4 s2 (Alike.refl _) s2).1
  have hki : k < (EX N k).all.length := by omega
  have hsum : YO π' (EX N k).all = El π' (EX N k).all k + Yi (CJ π' (gD (EX N k).all k)) (gD (EX N k).all k).sp := by
   rw [<- ASO]
   unfold El
   rw [Y7 (k := k) (f := λ i => if i = (EX N k).all.length then 0 else Yi (CJ π' (gD (EX N k).all i)) (gD (EX N k).all i).sp) hki, if_neg (show ¬ k = (EX N k).all.length by omega)]
   congr 1
   exact BQ λ i hi => by
    by_cases he : i = k
    ·simp [he]
    ·simp only [if_neg he]; rw [if_neg (by omega)]
  have hX : El (Yk (Wf N π')) (EX N k).all k = El π' (EX N k).all k := AMF hrw
  have hp : fY N q k = El π' (EX N k).all k := by rw [pE, he, BCF hg vl vb hk s3, hX]
  have hrise : Ll (Wf N π') (gD N.r k) = -(CJ π' (gD (EX N k).all k)) := by
   have e := Pd hg vl (by rw [vl]; exact vb) hk
   rw [<- hrw k hki]
   unfold CJ
   rw [(ends k hk).1, (ends k hk).2]; omega
  have hsp : (gD (EX N k).all k).sp = ⟨-100000000, 100000000⟩ := by
   have := (e2 k hk).1
   rw [er, if_pos rfl] at this; rw [this]; rfl
  have hR := rE q
  rw [he, hrise] at hR
  rw [hsp] at hsum
  have hbk := hr k hki
  have hcase : CJ π' (gD (EX N k).all k) = 0 ∨ CJ π' (gD (EX N k).all k) = 1 ∨ CJ π' (gD (EX N k).all k) = -1 := by omega
  rcases hcase with hc | hc | hc
  ·rw [hc] at hR hsum
   have := f1 q hq (by omega)
   unfold Yi at hsum
   rw [if_neg (by omega), if_neg (by omega)] at hsum
   omega
  ·rw [hc] at hR hsum
   have := l2 q hq (by omega)
   unfold Yi at hsum
   rw [if_pos rfl] at hsum
   simp only at hsum
   omega
  ·rw [hc] at hR hsum
   have := u2 q hq (by omega)
   unfold Yi at hsum
   rw [if_neg (by omega), if_pos rfl] at hsum
   simp only at hsum
   omega
 ·rintro ⟨T, hT⟩
  have hin := BIR hg hk hT
  have hw := ABP hg hk
  have hlen : (AV (EZ N k) T).all.length = N.r.length + N.g.length := by rw [EB, GO]; rfl
  have er : ∀ i, gD (EZ N k).r i = if i = k then { (gD N.r k) with sp := wide } else gD N.r i := λ i => BD hk i
  have wk : gD (AV (EZ N k) T).all k = ⟨(gD N.r k).fr, (gD N.r k).to, wide, gD T.f k⟩ := by
   rw [NK (by rw [GO]; exact hk), er, if_pos rfl]
  have key : ∀ q, q < (BS N).length -> fY N q k <= -(rsR N ⟨k, q⟩) * gD T.f k := λ q hq => by
   have hv := gA h hq
   obtain ⟨vl, vb⟩ := XK hv
   obtain ⟨_, _, v3⟩ := SQ.1 hv
   have vb' : ∀ i, i < (gD (BS N) q).length -> -1 <= gD (gD (BS N) q) i /\ gD (gD (BS N) q) i <= 1 := by rw [vl]; exact vb
   rw [pE, BCF hg vl vb hk (JF (T := T)), rE]
   have := AOD hin (π := Yk (gD (BS N) q)) (k := k) (by omega) λ i hi hne => by
    rw [hlen] at hi
    revert i
    refine QQ (λ i hi hne => ?_) (λ j hj hne => ?_)
    ·rw [NK (by rw [GO]; exact hi), er, if_neg hne]
     have := v3 i hi
     have e := Pd hg vl vb' hi
     unfold CJ; simp only; omega
    ·have e := OU (N := EZ N k) (T := T) (j := j) hj
     rw [GO] at e
     rw [e]
     unfold CJ Yk
     have eg : (EZ N k).g = N.g := rfl
     simp only [eg]
     have := vb j hj
     rw [if_pos (by omega), if_neg (by omega)]
     simp only [Int.toNat_natCast]; omega
   rw [wk] at this
   unfold CJ at this
   simp only at this
   rw [<- Pd hg vl vb' hk] at this
   exact this
  have hx := hT.k
  refine ⟨λ q hq h0 => ?_, ?_⟩
  ·have := key q hq
   rw [h0] at this; simpa using this
  ·have a : (rsS N k (BS N).length).lo <= gD T.f k := by
    rcases l3 with l3 | ⟨q, hq, e1, e2⟩
    ·omega
    ·have := key q hq
     rw [e1] at this; omega
   have b : gD T.f k <= (rsS N k (BS N).length).hi := by
    rcases u3 with u3 | ⟨q, hq, e1, e2⟩
    ·omega
    ·have := key q hq
     rw [e1] at this; omega
   omega
theorem BLC (N : NetL) : rsE N = YB N /\ rsT N = R1 N := by
 by_cases h : AB N = 0
 ·have hE : rsE N = YB N := by unfold rsE YB; rw [pL h]
  refine ⟨hE, ?_⟩
  unfold rsT R1
  rw [hE]
  have : iB N N.r.length = IR N N.r.length := by
   unfold iB IR
   congr 1
   refine List.filter_congr λ i hi => ?_
   rw [List.mem_range] at hi
   exact BES h hi
  rw [this]
 ·have hE : rsE N = YB N := by unfold rsE YB; rw [if_neg h, if_neg h]
  have h2 : ¬ YB N = 0 := by unfold YB; rw [if_neg h]; exact h
  refine ⟨hE, ?_⟩
  unfold rsT R1
  rw [hE, if_neg h2, if_neg h2]
def Q8 (N : NetL) (k : Nat) : Span := (gD (AO N).all k).sp
def F7 (N : NetL) (k q : Nat) : Int := -(CJ (Yk (gD (BS N) q)) (gD (AO N).all k))
theorem ARQ (h : AB N = 0) (hc : EV N = 0) {k : Nat} (hk : k < N.r.length + N.g.length) {s : Int} (hs : -1 <= s /\ s <= 1000) (hs1 : ∀ i, i < N.r.length -> ((i : Int) = s ↔ i = k)) (hs2 : ∀ j, j < N.g.length -> ((j : Int) = s - 100 ↔ N.r.length + j = k)) :
  ZM (Q8 N k) (F7 N k) (λ q => fY N q s) (BS N).length = (JM (AI N) k).getD default := by
 have hg := BB h
 have Gq := Alike.refl (AO N)
 have hlen0 : (AO N).all.length = N.r.length + N.g.length := CW N
 obtain ⟨_, hS⟩ := ACW h hc hk
 obtain ⟨c1, c2⟩ := BKV h hc hk
 obtain ⟨l1, l2, l3⟩ := zD (Q8 N k) (rise := F7 N k) (rest := λ q => fY N q s) (K := (BS N).length)
 obtain ⟨u1, u2, u3⟩ := wB (Q8 N k) (rise := F7 N k) (rest := λ q => fY N q s) (K := (BS N).length) λ q hq _ => by
  have := BHM h hq hs; omega
 have pE : ∀ q, q < (BS N).length -> fY N q s = El (Yk (gD (BS N) q)) (AO N).all k := λ q hq => by
  obtain ⟨vl, vb⟩ := XK (gA h hq)
  exact ALG hg vl vb hs hs1 hs2 Gq
 have key : ∀ T, Can N T -> (Q8 N k).lo <= (gD (AV N T).all k).now /\ (gD (AV N T).all k).now <= (Q8 N k).hi /\ ∀ q, q < (BS N).length -> fY N q s <= -(F7 N k q) * (gD (AV N T).all k).now := λ T hT => by
  obtain ⟨i1, a1⟩ := lS hT
  obtain ⟨w1, w2, w3⟩ := a1.way k (by omega)
  have hn := i1.now k (by rw [EB]; exact hk)
  rw [w3] at hn
  refine ⟨hn.1, hn.2, λ q hq => ?_⟩
  have hv := gA h hq
  obtain ⟨vl, vb⟩ := XK hv
  obtain ⟨_, _, v3⟩ := SQ.1 hv
  have vb' : ∀ i, i < (gD (BS N) q).length -> -1 <= gD (gD (BS N) q) i /\ gD (gD (BS N) q) i <= 1 := by rw [vl]; exact vb
  rw [pE q hq, <- K1 a1]
  have := AOD i1 (π := Yk (gD (BS N) q)) (k := k) (by rw [EB]; exact hk) λ i hi _ => by
   rw [EB] at hi
   revert i
   refine QQ (λ i hi => ?_) (λ j hj => ?_)
   ·rw [NK hi]
    have := v3 i hi
    have e := Pd hg vl vb' hi
    unfold CJ; simp only; omega
   ·rw [OU hj]
    unfold CJ Yk
    have := vb j hj
    simp only
    rw [if_pos (by omega), if_neg (by omega)]
    simp only [Int.toNat_natCast]; omega
  have e : CJ (Yk (gD (BS N) q)) (gD (AV N T).all k) = -(F7 N k q) := by
   unfold F7 CJ; rw [w1, w2]; omega
  rw [e] at this
  exact this
 have cut : ∀ π : Int -> Int, (∀ v, π v = 0 ∨ π v = -1) -> ∃ q, q < (BS N).length /\ F7 N k q = -(CJ π (gD (AO N).all k)) /\ fY N q s = El π (AO N).all k := λ π hπ => by
  have df : ∀ a b, -1 <= π a - π b /\ π a - π b <= 1 := λ a b => by
   rcases hπ a with h1 | h1 <;> rcases hπ b with h2 | h2 <;> omega
  obtain ⟨q, hq, he⟩ := xF ((xA h _).2 (BCB hg (π := π) (λ j _ => df _ _) λ i _ => df _ _))
  have hrw : ∀ i, i < (AO N).all.length -> CJ (Yk (Wf N π)) (gD (AO N).all i) = CJ π (gD (AO N).all i) := λ i hi => by
   have := (Pt hg).mem (Fi hi)
   have ho : (AO N).out = N.g.length := rfl
   unfold CJ
   rw [oS (by omega) (by omega), oS (by omega) (by omega)]; omega
  refine ⟨q, hq, ?_, ?_⟩
  ·unfold F7; rw [he, hrw k (by omega)]
  ·rw [pE q hq, he]; exact AMF hrw
 have hlo : (ZM (Q8 N k) (F7 N k) (λ q => fY N q s) (BS N).length).lo = ((JM (AI N) k).getD default).lo := by
  refine Int.le_antisymm ?_ ?_
  ·obtain ⟨T, hT, e⟩ := hS.lo
   obtain ⟨k1, k2, k3⟩ := key T hT
   rw [<- e]
   rcases l3 with l3 | ⟨q, hq, e1, e2⟩
   ·omega
   ·have := k3 q hq
    rw [e1] at this; omega
  ·rcases c1 with c1 | ⟨π, q1, q2, q3⟩
   ·simp only [Bool.false_eq_true, if_false] at c1
    have e : (gD (AO N).all k).sp = Q8 N k := rfl
    rw [c1, e]; exact l1
   ·simp only [Bool.false_eq_true, if_false] at q2 q3
    obtain ⟨q, hq, e1, e2⟩ := cut π q1
    have := l2 q hq (by omega)
    omega
 have hhi : (ZM (Q8 N k) (F7 N k) (λ q => fY N q s) (BS N).length).hi = ((JM (AI N) k).getD default).hi := by
  refine Int.le_antisymm ?_ ?_
  ·rcases c2 with c2 | ⟨π, q1, q2, q3⟩
   ·simp only [if_true] at c2
    have e : (gD (AO N).all k).sp = Q8 N k := rfl
    rw [c2, e]; exact u1
   ·simp only [if_true] at q2 q3
    obtain ⟨q, hq, e1, e2⟩ := cut π q1
    have := u2 q hq (by omega)
    omega
  ·obtain ⟨T, hT, e⟩ := hS.hi
   obtain ⟨k1, k2, k3⟩ := key T hT
   rw [<- e]
   rcases u3 with u3 | ⟨q, hq, e1, e2⟩
   ·omega
   ·have := k3 q hq
    rw [e1] at this; omega
 cases hx : ZM (Q8 N k) (F7 N k) (λ q => fY N q s) (BS N).length with | mk a b =>
 cases hy : (JM (AI N) k).getD default with | mk c e =>
 rw [hx, hy] at hlo hhi
 simp only at hlo hhi
 rw [hlo, hhi]
end Go.Bal

namespace Go.Bal
open Go Go.Sym Go.Proofs
def bigM (N : NetL) : Bool := decide (N.g.length > 6) && decide (N.g.length < 9) || decide (N.g.length > 10) || (decide (N.r.length > 10) && decide (N.r.length < 15)) || decide (N.r.length > 17)
def C13 : Ctr := { α := NetL, xs := xsN, val := λ N => .bool (bigM N) }
def V13 (N : NetL) : Prop := BN Try.prog (ann 37 []) Try.f13 (AF Try.f13) (C13.xs N) (AD []) (C13.val N) (C13.keep N) [] []
theorem vc13 (N : NetL) : (V13 N) = (Gq (bigM N) (Jm (Cj (Jm (KT (Ys (JC N) 6) (Tt (JC N) 9)) (JC N) 10) (Ys (BT (AM N)) 10) (Tt (BT (AM N)) 15)) (BT (AM N)) 17)) := by kernel_rfl
theorem p13 (N : NetL) : V13 N := by
 rw [vc13]<;> simp only [go_sem]
 unfold bigM
 have q1 : decide ((N.g.length : Int) > 6) = decide (N.g.length > 6) := by rw [decide_eq_decide]; omega
 have q2 : decide ((N.g.length : Int) < 9) = decide (N.g.length < 9) := by rw [decide_eq_decide]; omega
 have q3 : decide ((N.g.length : Int) > 10) = decide (N.g.length > 10) := by rw [decide_eq_decide]; omega
 have q4 : decide ((N.r.length : Int) > 10) = decide (N.r.length > 10) := by rw [decide_eq_decide]; omega
 have q5 : decide ((N.r.length : Int) < 15) = decide (N.r.length < 15) := by rw [decide_eq_decide]; omega
 have q6 : decide ((N.r.length : Int) > 17) = decide (N.r.length > 17) := by rw [decide_eq_decide]; omega
 simp only [q1, q2, q3, q4, q5, q6]
 cases decide (N.g.length > 6) <;> cases decide (N.g.length < 9) <;> cases decide (N.g.length > 10) <;> cases decide (N.r.length > 10) <;> cases decide (N.r.length < 15) <;> cases decide (N.r.length > 17) <;> simp
theorem ok13 : AH Try.prog 13 (C13.spec dN) := UY C13 (λ _ => ann 37 []) [] [] Try.func13 (λ _ => by kernel_rfl) (λ _ => AE) (λ N _ => p13 N) (λ _ => WR rfl rfl) _
def A3 := ann 184 [(13, C13.spec dN), (14, s14), (15, C15.spec fT), (16, C16.spec d16), (17, C17.spec d17), (18, C18.spec dN), (19, C19t.spec dN), (20, C20t.spec dN), (21, C21t.spec dN), (22, C42.spec d42), (23, C23.spec dP), (24, C24.spec dP), (25, C25t.spec dN), (26, C26.spec dN), (27, C27.spec d27), (28, C28.spec d28)]
def V3 (a : NPL) : Prop := BN Try.prog A3 Try.f3 (AF Try.f3) (xs24 a) (AD []) (.bool true) [] [] []
abbrev iG:=PG Hi
abbrev Od a b:=IK a iG b
abbrev bC a b:=AEA (HQ a) b
abbrev H3 a:=bC a a
abbrev Og a b c d e:=Mo (Bz a b) c (BFX d e)
abbrev AXV a b:=ADO (OK a) (gY b)
abbrev BGQ a b c:=wH (AXV a b) c
abbrev M1 a:=BBF (AN a) (λ i=>P0 a i)
abbrev FV a:=BGQ (AN a) (AN a) (M1 a)
abbrev mZ a:=rsT (FV a)
abbrev fJ a:=HQ (mZ a)
abbrev Ht a:=R1 (FV a)
abbrev aZ a:=rsE (FV a)
abbrev eQ a:=YB (FV a)
abbrev Vp a b c:=VB a (And (DB b) c)
abbrev Tc a:=YX (QX a)
abbrev AEU a:=Cd (PM a)
abbrev Yg a b:=And (Cd a) (AEU b)
abbrev BAW a:=LC (AXV a a)
abbrev Vq a:=BAW (AN a)
abbrev ZE a b c d e f g h:=Mm a (M1 b) (Ec c d) (It e f) (Mp g h)
abbrev ZB a b:=oC (M1 a) (AN b)
abbrev AMM a b c:=ALH a b (ES (AXV c c) a) c
abbrev ZR a b c:=AMM a (Vq b) (AN c)
abbrev YR a b:=AOW (Vq a) b
abbrev uA a:=AEU (M1 a)
abbrev vL a:=Cd (Vq a)
abbrev ANS a b c:=NPL.mk (FV a) b c
abbrev aR a b c:=ANS a (Dk b) c
abbrev tL a:=HQ (DD a)
abbrev lV a:=levT (FV a)
abbrev lA a:=AFA (FV a)
abbrev mO a b:=O3 (HQ a) (HQ b)
abbrev vE a:=Zq (corT (FV a))
abbrev rV a:=Zo (corT (FV a))
abbrev Ry a:=Cd (QX a)
attribute [go_sem] iG Od bC H3 Og AXV BGQ M1 FV mZ fJ Ht aZ eQ Vp Tc AEU Yg BAW Vq ZE ZB AMM ZR YR uA vL ANS aR tL lV lA mO vE rV Ry
theorem vc3 (a : NPL) : (V3 a) = (EG (Ko (eS a) (AN a) (cK a) (AG (λ i=>Rs i (AN a) (Tz (Ec a i) a i) (It a i) i (Mp a i) (Fv a i)))) (Jm (bigM (IF (AN a))) (PS (BW a)) 12) VS (BG (XI (eS a) (λ i=>OD i (AN a)) (cK a) (λ i=>Rs i (AN a) (Tz (Ec a i) a i) (It a i) i (Mp a i) (Fv a i)) (RV (AN a)) (VM (AN a)) (Qt a a) (KH (DD a) (BW a)) (Ke (fU a))) (J8 (eS a) (AN a) (λ i=>Rs i (AN a) (Tz (Ec a i) a i) (It a i) i (Mp a i) (Fv a i)) (RV (AN a)) (Ke (HA (AN a)))) (Ck (YR a a) (λ i=>ZR i a a) (ZB a a) (λ i=>ZE i a a i a i a i) (vL a) (uA a)) (DW (YR a a) (λ i=>ZR i a a) (ZB a a) (AG (λ i=>ZE i a a i a i a i))) (Od (SD (SO (YC (FV a)) (YC (FV a))) (E6 (agrM (FV a)) (WO (YC (FV a)) (KS (lA a))))) (Gx (DW (YR a a) (λ i=>ZR i a a) (ZB a a) (AG (λ i=>ZE i a a i a i a i))) (Od (Cj (WS (hd2 (SO (YC (FV a)) (YC (FV a))) Hi (SO (YC (FV a)) (YC (FV a)))) (SO (corC (FV a)) (lA a))) (UD (YC (FV a))) (RU (NJ (Io (EA (rV a)) (PS (vE a))) (PS (lV a))))) (IK (KS (YC (FV a))) (EG (MH (YR a a) (λ i=>ZR i a a) (FN (ZB a a) (λ i=>ZE i a a i a i a i) (DB (rV a)) (DN (rV a)) (DB (vE a)) (DN (vE a)) (Yg (Vq a) (M1 a)) (Ry (rV a)) (Ry (vE a)))) (WS (UD (zQ (FV a) (mO (rV a) (vE a)))) (SO (wU (FV a) (mO (rV a) (vE a))) (lA a))) iG (EG (And (YR a a) (MW (λ i=>ZR i a a) (ZB a a) (AG (λ i=>ZE i a a i a i a i)) (AR (lA a)) (DB (lV a)) (DN (lV a)) (Tc (lV a)) (vL a) (uA a))) (SD (UD (Mc (ANS a (lA a) (HQ (lV a))))) (ADH (ANS a (lA a) (HQ (lV a))) (lA a) (Rj (FV a) (HQ (lV a)) (gN (FV a)) (-1) (Vq a)))) iG (Ja (YR a a) (λ i=>ZR i a a) (ZB a a) (BG (AG (λ i=>ZE i a a i a i a i)) (AR (Dk a)) (DB (DD a)) (DN (DD a)) (Oh (QX (DD a)))) (And (YR a a) (MW (λ i=>ZR i a a) (ZB a a) (AG (λ i=>ZE i a a i a i a i)) (AR (Dk a)) (Qt a a) (KH (DD a) (BW a)) (YX (fU a)) (vL a) (uA a))) (Od (Wn (Mc (aR a a (tL a))) (Mc (aR a a (DD a))) (E6 (Br (aR a a (tL a)) a (qF (FV a) (tL a))) (Br (aR a a (DD a)) a (Rj (FV a) (DD a) (gN (FV a)) (-1) (Vq a))))) (AP (DW (YR a a) (λ i=>ZR i a a) (ZB a a) (AG (λ i=>ZE i a a i a i a i))) (Ck (YR a a) (λ i=>ZR i a a) (ZB a a) (λ i=>ZE i a a i a i a i) (vL a) (uA a)) (AJ (Vp (Bz (eQ a) (aZ a)) (Ht a) (FR (DN (Ht a)) (DB (mZ a)) (λ i=>FW i (fJ a) (mZ a)) (Tc (Ht a)) (Oh (QX (mZ a))))) (Rf (KT (Bz (eQ a) (aZ a)) (bC (Ht a) (fJ a))) (YR a a) (λ i=>ZR i a a) (XI (ZB a a) (λ i=>ZE i a a i a i a i) (eS a) (λ i=>OD i (AN a)) (cK a) (AG (λ i=>Rs i (AN a) (Tz (Ec a i) a i) (It a i) i (Mp a i) (Fv a i))) (Yg (Vq a) (M1 a)) (RV (AN a)) (VM (AN a)))) (Vp (Og (eQ a) (aZ a) (bC (Ht a) (fJ a)) (FV a) (IF (AN a))) (DD a) (FR (DN (DD a)) (Qt a a) (λ i=>FW i (DD a) (BW a)) (Tc (DD a)) (Jz (DD a))))) (Gq Hi (Mo (Og (eQ a) (aZ a) (bC (Ht a) (fJ a)) (FV a) (IF (AN a))) (H3 (DD a)) Hi))))))) (Ja (YR a a) (λ i=>ZR i a a) (ZB a a) (BG (AG (λ i=>ZE i a a i a i a i)) (AR (Dk a)) (DB (DD a)) (DN (DD a)) (Oh (QX (DD a)))) (And (YR a a) (MW (λ i=>ZR i a a) (ZB a a) (AG (λ i=>ZE i a a i a i a i)) (AR (Dk a)) (Qt a a) (KH (DD a) (BW a)) (YX (fU a)) (vL a) (uA a))) (Od (Wn (Mc (aR a a (tL a))) (Mc (aR a a (DD a))) (E6 (Br (aR a a (tL a)) a (qF (FV a) (tL a))) (Br (aR a a (DD a)) a (Rj (FV a) (DD a) (gN (FV a)) (-1) (Vq a))))) (AP (DW (YR a a) (λ i=>ZR i a a) (ZB a a) (AG (λ i=>ZE i a a i a i a i))) (Ck (YR a a) (λ i=>ZR i a a) (ZB a a) (λ i=>ZE i a a i a i a i) (vL a) (uA a)) (AJ (Vp (Bz (eQ a) (aZ a)) (Ht a) (FR (DN (Ht a)) (DB (mZ a)) (λ i=>FW i (fJ a) (mZ a)) (Tc (Ht a)) (Oh (QX (mZ a))))) (Rf (KT (Bz (eQ a) (aZ a)) (bC (Ht a) (fJ a))) (YR a a) (λ i=>ZR i a a) (XI (ZB a a) (λ i=>ZE i a a i a i a i) (eS a) (λ i=>OD i (AN a)) (cK a) (AG (λ i=>Rs i (AN a) (Tz (Ec a i) a i) (It a i) i (Mp a i) (Fv a i))) (Yg (Vq a) (M1 a)) (RV (AN a)) (VM (AN a)))) (Vp (Og (eQ a) (aZ a) (bC (Ht a) (fJ a)) (FV a) (IF (AN a))) (DD a) (FR (DN (DD a)) (Qt a a) (λ i=>FW i (DD a) (BW a)) (Tc (DD a)) (Jz (DD a))))) (Gq Hi (Mo (Og (eQ a) (aZ a) (bC (Ht a) (fJ a)) (FV a) (IF (AN a))) (H3 (DD a)) Hi))))))))))) := by kernel_rfl
theorem BAR (N : NetL) (p : Int) (lv : List Int) : (decide (TE ⟨N, p, lv⟩ = 0) && decide (p <= Pr ⟨N, lv, EL N, 0, -1⟩ N.g.length)) = (decide (TE ⟨N, p, lv⟩ = 0) && decide (p <= Fr N lv)) := by
 by_cases h : TE ⟨N, p, lv⟩ = 0
 ·have hc : AB N = 0 := by
   unfold TE at h; simp only at h
   by_cases hc : AB N = 0
   ·exact hc
   ·rw [if_neg hc] at h; exact h
  have hv : XM N lv = true := by
   unfold TE at h; simp only at h
   rw [if_pos hc] at h
   cases hv : XM N lv with
   | true => rfl
   | false => rw [hv] at h; simp at h
  obtain ⟨a, b⟩ := XK hv
  rw [F5 (BB hc) a b]
 ·rw [decide_eq_false h]; rfl
theorem BIO (N : NetL) : (R1 N).length <= N.r.length := by
 unfold R1
 split
 ·unfold IR
  rw [List.length_map]
  have := List.length_filter_le (λ i => qS N i) (List.range N.r.length)
  rw [List.length_range] at this; exact this
 ·simp
theorem BNK {N : NetL} {n : Nat} (h : (bif bigM N then true else decide ((n : Int) > 12)) = false) : N.g.length <= 10 /\ N.r.length <= 17 /\ n <= 12 := by
 unfold bigM at h
 by_cases a : N.g.length > 10
 ·simp [a] at h
 ·by_cases b : N.r.length > 17
  ·simp [b] at h
  ·by_cases c : (n : Int) > 12
   ·simp [c] at h
   ·omega
theorem p3 (a : NPL) : V3 a := by
 obtain ⟨N, p, lv⟩ := a
 have et : NetL.mk N.g N.r = N := rfl
 have ets : ∀ T : TruthL, TruthL.mk T.f T.t = T := λ _ => rfl
 rw [vc3]<;> simp only [go_sem]; simp only [CC, eq_self, implies_true, forall_const, et, ets]
 intro hb
 obtain ⟨s1, s2, s3⟩ := BNK hb
 clear hb
 have sl := BIO N
 obtain ⟨q1, q2⟩ := BLC N
 rw [q1, q2, BCS, BAR N p lv, BAR]
 have b1 : N.g.length <= 1000000 := by omega
 have b2 : N.r.length <= 1000000 := by omega
 have b3 : lv.length <= 1000000 := by omega
 have b4 : lv.length < 4611686018427387904 := by omega
 have b5 : (R1 N).length < 4611686018427387904 := by omega
 by_cases hc : AB N = 0
 ·obtain ⟨t1, t2, t3⟩ := ALV hc
  obtain ⟨_, u1, u2, _⟩ := Ux t1
  obtain ⟨v1, v2⟩ := AXS hc
  have vl := (XK v1).1
  have e1 : corC N = EV N := if_pos hc
  have e2 : corT N = S1 N := if_pos hc
  have e3 : levT N = Gn N := if_pos hc
  have e4 : Dc N (S1 N) = 0 := by unfold Dc; rw [if_pos t1, t2]; rfl
  have e5 : gM N (S1 N) = EV N := by unfold gM; rw [if_pos e4, t3]
  have e6 : TE ⟨N, EV N, Gn N⟩ = 0 := by unfold TE; simp only; rw [if_pos hc, v1]; rfl
  have e7 : agrM N = decide (EV N = 0) := by unfold agrM; rw [decide_eq_true hc]; rfl
  have b6 : (S1 N).f.length <= 1000000 := by omega
  have b7 : (S1 N).t.length <= 1000000 := by omega
  have b8 : (Gn N).length < 4611686018427387904 := by omega
  have e8 : (EV N == 0) = decide (EV N = 0) := by cases h : decide (EV N = 0) <;> simp_all
  rw [e1, e2, e3, e4, e5, e6, e7, hc, v2, e8]
  simp [b1, b2, b3, b4, b5, b6, b7, b8]
 ·have e1 : corC N = 0 := if_neg hc
  have e2 : corT N = zT := if_neg hc
  have e3 : levT N = [] := if_neg hc
  have e7 : agrM N = false := by unfold agrM; rw [decide_eq_false hc]; rfl
  have z1 : zT.f.length = 0 := rfl
  have z2 : zT.t.length = 0 := rfl
  have wz : IntKind.i64.wrap (IntKind.i64.wrap (((0 : Nat) : Int) + ((0 : Nat) : Int)) + ((0 : Nat) : Int)) = 0 := by decide
  rw [e1, e2, e3, e7, z1, z2, List.length_nil, wz]
  simp [b1, b2, b3, b4, b5, hc]
theorem c3 (a : NPL) : FnT Try.prog 3 (xs24 a) (AD []) (.bool true) [] :=
 Pb (A := A3) (ren := []) (fz := []) Try.func3 (by kernel_rfl) (AA ok13 (AA ok14 (AA ok15 (AA ok16 (AA ok17 (AA ok18 (AA BPR (AA BQR (AA BRQ (AA ok22 (AA ok23 (AA BPT (AA BRG (AA ok26 (AA ok27 (AA ok28 AE)))))))))))))))) (p3 a)
end Go.Bal
