/- The reference: spans, Reach2 and Group are what is returned. -/
import Derived.Test.YtonddbmhljelgaaBalLv6
import Derived.Test.YtonddbmhljelgaaBalLvU
set_option linter.unusedVariables false
set_option linter.unusedSimpArgs false
namespace Go.Bal
open Go
variable {N : NetL} {T : TruthL}
theorem UQ {s : Span} {r1 r2 p1 p2 : Nat -> Int} : ∀ {K : Nat}, (∀ k, k < K -> r1 k = r2 k /\ p1 k = p2 k) -> HO s r1 p1 K = HO s r2 p2 K
 | 0, _ => rfl
 | K + 1, h => by
  obtain ⟨a, b⟩ := h K (by omega)
  simp only [HO]
  rw [UQ λ k hk => h k (by omega), a, b]
theorem ABG (h : AC N = 0) (hc : BK N = 0) {i : Nat} (hi : i < N.r.length) : Mp N i (AQ N).length = gD (OE N) i := by
 have hg := AS h
 have h14 := hg.r14
 obtain ⟨_, e2, _⟩ := EN (Alike.refl (AJ N))
 obtain ⟨a, b, c⟩ := e2 i hi
 rw [Rm h hi, <- Ka h hc (k := i) (s := (i : Int)) (by omega) (by omega) (λ j hj => by omega) (λ j hj => by omega)]
 unfold Mp ZY
 rw [a]
 refine UQ λ q hq => ⟨?_, rfl⟩
 obtain ⟨vl, vb⟩ := HC (PN h hq)
 have := LW hg vl (by rw [vl]; exact vb) hi
 unfold XT BG
 rw [b, c]
 have e : Gg N ⟨i, q⟩ = KY (gD (AQ N) q) (gD N.r i) := rfl
 show Gg N ⟨i, q⟩ = _
 rw [e]; omega
theorem AAY (h : AC N = 0) (hc : BK N = 0) {j : Nat} (hj : j < N.g.length) : Ki N j (AQ N).length = gD (TN N) j := by
 have hg := AS h
 have h14 := hg.r14
 have h8 := hg.g8
 obtain ⟨_, _, e3⟩ := EN (Alike.refl (AJ N))
 obtain ⟨a, b, c⟩ := e3 j hj
 have ew : wr ((j : Int) + 100) = (j : Int) + 100 := LO (by omega) (by omega)
 rw [Zj h hj, <- Ka h hc (k := N.r.length + j) (s := (j : Int) + 100) (by omega) (by omega) (λ i hi => by omega) (λ i hi => by omega)]
 unfold Ki ZY
 rw [a, ew]
 refine UQ λ q hq => ⟨?_, rfl⟩
 obtain ⟨vl, vb⟩ := HC (PN h hq)
 unfold XT BG
 rw [b, c]
 have p1 : OG (gD (AQ N) q) (j : Nat) = -(gD (gD (AQ N) q) j) := by unfold OG; rw [if_pos ⟨by omega, by rw [vl]; omega⟩]; simp
 have p2 : OG (gD (AQ N) q) (N.g.length : Nat) = 0 := by unfold OG; exact if_neg λ hh => by rw [vl] at hh; omega
 rw [p1, p2]; omega
theorem Vi (N : NetL) : QN N = Af N /\ Et N = Bm N := by
 unfold QN Et Af Bm
 rw [VV]
 by_cases h : FF N = 0
 ·rw [if_pos h, if_pos h, if_pos h, if_pos h]
  obtain ⟨hc, hs⟩ := OP.1 h
  obtain ⟨l1, l2⟩ := Pd hc
  exact ⟨JX (by rw [Ap, l1]) λ i hi => by rw [Ap] at hi; rw [Hv hi, ABG hc hs hi], JX (by rw [Iw, l2]) λ i hi => by rw [Iw] at hi; rw [In hi, AAY hc hs hi]⟩
 ·rw [if_neg h, if_neg h, if_neg h, if_neg h]; exact ⟨rfl, rfl⟩
theorem AAU (a : NRF) : YO a = BS a := by
 obtain ⟨N, r, f⟩ := a
 unfold YO
 simp only
 rw [VV, (Vi N).1]
 by_cases hc : AC N = 0
 ·rw [if_pos hc]
  by_cases hr : inM r 0 (N.r.length - 1) = true
  ·rw [if_pos hr]
   have hr' := BI.1 hr
   have hn := FY hc
   by_cases hz : BK N = 0
   ·have hf : FF N = 0 := OP.2 ⟨hc, hz⟩
    rw [if_pos hf, show Af N = OE N from if_pos hf]
    have hir : r.toNat < N.r.length := by omega
    by_cases hb : inM f (-100000000) 100000000 = true
    ·have := Sq hc hz hir (BI.1 hb)
     rw [show ((r.toNat : Nat) : Int) = r by omega] at this
     rw [this]
     by_cases hi : inM f (gD (OE N) r.toNat).lo (gD (OE N) r.toNat).hi = true
     ·rw [if_pos hi, if_pos (BI.1 hi)]
     ·rw [if_neg hi, if_neg λ h => hi (BI.2 h)]
    ·have e : BS ⟨N, r, f⟩ = 5 := by
      unfold BS; simp only
      rw [if_pos hc, if_pos hr, if_neg (by omega), if_neg hb]
     rw [e, if_neg]
     intro hi
     refine hb (BI.2 ?_)
     have hi := BI.1 hi
     have hS := He hc hz hir
     obtain ⟨T1, c1, e1⟩ := hS.lo
     obtain ⟨T2, c2, e2⟩ := hS.hi
     have g1 := ((PD hc).1 c1).2.1 r.toNat hir
     have g2 := ((PD hc).1 c2).2.1 r.toNat hir
     have := ((AS hc).r r.toNat hir).1
     omega
   ·have hf : FF N = 6 := by unfold FF; rw [if_pos hc, if_pos (by omega)]
    rw [hf, if_neg (by decide)]
    unfold BS; simp only
    rw [if_pos hc, if_pos hr, if_pos (by omega)]
  ·rw [if_neg hr]
   unfold BS; simp only
   rw [if_pos hc, if_neg hr]
 ·rw [if_neg hc]
  unfold BS; simp only
  rw [if_neg hc]
def Tb (N : NetL) (lv : List Int) (q : Int) (v : Int) : Int := if v = (N.g.length : Int) + 1 then -q else OG lv v
theorem Es (lv : List Int) (q : Int) {v : Int} (h : v <= N.g.length) : Tb N lv q v = OG lv v := if_neg (by omega)
theorem Ee {n : Nat} {st : List Int} {j : Nat} (hj : j < n) : gD (JU n st st.length) j = decide ((j : Int) ∈ st) := by
 unfold JU
 rw [BZ (λ (j : Nat) => decide ((j : Int) ∈ st.take st.length)) hj, List.take_length]
theorem Rd (hg : Good N) {st : List Int} (hs : Grp N.g.length st) {d : Desk} (hd : Alike (AJ N) d) (hD : GD N st d) {lv : List Int} (hl : lv.length = N.g.length) (hb : ∀ j, j < N.g.length -> -2 <= gD lv j /\ gD lv j <= 2) {q : Int} (hq : -1 <= q /\ q <= 1) :
  KN ⟨N, lv, JU N.g.length st st.length, q, -1⟩ N.g.length = JI (Tb N lv q) (CO d st).all d.all.length := by
 obtain ⟨g1, g2, g3, g4, g5, g6⟩ := hD
 obtain ⟨e1, e2, e3⟩ := EN hd
 have hnR : d.nR = N.r.length := hd.nR
 have hout : d.out = N.g.length := hd.out
 rw [My (a := ⟨N, lv, JU N.g.length st st.length, q, -1⟩) hg (λ j hj => by have := hb j hj; show -3 <= gD lv j /\ gD lv j <= 3; omega) hq (by simp only; omega)]
 unfold JI
 rw [g1]
 simp only [BM]
 rw [if_pos trivial, Int.add_zero, e1, JS]
 have pl : ∀ v : Int, 0 <= v -> v < N.g.length -> Tb N lv q v = -(gD lv v.toNat) := λ v h0 h1 => by
  rw [Es lv q (by omega)]; unfold OG; rw [if_pos ⟨h0, by rw [hl]; exact h1⟩]
 congr 1
 ·refine AX λ i hi => ?_
  have hi : i < N.r.length := hi
  obtain ⟨a, b, c⟩ := e2 i hi
  obtain ⟨_, b1, b2, _⟩ := hg.r i hi
  rw [if_neg (by show ¬ (i : Int) = -1; omega), if_neg (by omega), g4 i (by omega), if_neg (by
   rintro ⟨x, hx, he⟩
   have := hs.mem x hx
   omega)]
  unfold BG
  rw [a, b, c, pl _ b2.1 b2.2, pl _ b1.1 b1.2]
  congr 1
  show -(gD lv (gD N.r i).to.toNat - gD lv (gD N.r i).fr.toNat) = _
  omega
 ·refine AX λ j hj => ?_
  have hj : j < N.g.length := hj
  obtain ⟨a, b, c⟩ := e3 j hj
  rw [if_neg (by show ¬ (j : Int) = -1 - 100; omega), if_neg (by omega), g4 (N.r.length + j) (by omega)]
  have hx : (∃ x ∈ st, ((N.r.length + j : Nat) : Int) = d.nR + x) ↔ (j : Int) ∈ st := by
   constructor
   ·rintro ⟨x, hx, he⟩
    have : x = j := by omega
    subst this; exact hx
   ·intro h; exact ⟨j, h, by omega⟩
  unfold BG
  have p1 := pl (j : Nat) (by omega) (by omega)
  rw [Int.toNat_natCast] at p1
  by_cases hm : (j : Int) ∈ st
  ·rw [if_pos (hx.2 hm)]
   have hbp : JA ⟨N, lv, JU N.g.length st st.length, q, -1⟩ j = q := by
    unfold JA; simp only; rw [Ee hj, decide_eq_true hm]; rfl
   have p2 : Tb N lv q ((d.out : Int) + 1) = -q := if_pos (by omega)
   simp only
   rw [a, c, p1, p2, hbp]
   congr 1; omega
  ·rw [if_neg λ h => hm (hx.1 h)]
   have hbp : JA ⟨N, lv, JU N.g.length st st.length, q, -1⟩ j = 0 := by
    unfold JA; simp only; rw [Ee hj, decide_eq_false hm]; rfl
   have p2 : Tb N lv q (N.g.length : Nat) = 0 := by rw [Es lv q (by omega)]; unfold OG; exact if_neg λ hh => by rw [hl] at hh; omega
   rw [a, b, c, p1, p2, hbp]
   congr 1; omega
theorem Vq {a : NGr} (hg : Good a.N) {q : Int} (hq : -1 <= q /\ q <= 1) (lv : List Int) : lv ∈ LN a q ↔ LvOk (Yu a q) a.N.g.length lv := TD (a := Yu a q) hg hq _ _
theorem Aq {a : NGr} {q : Int} {j : Nat} (hj : j < a.N.g.length) : MK (Yu a q) j = if (j : Int) ∈ a.st then q else 0 := by
 unfold MK Yu
 simp only
 rw [Ee hj]
 by_cases h : (j : Int) ∈ a.st
 ·rw [if_pos h, decide_eq_true h]; rfl
 ·rw [if_neg h, decide_eq_false h]; rfl
theorem AAB {a : NGr} (h : AC a.N = 0) (hs : Grp a.N.g.length a.st) {q : Int} (hq : -1 <= q /\ q <= 1) {k : Nat} (hk : k < (LN a q).length) (hT : Can a.N T) : Gq a q k <= -q * MX a.st T := by
 have hg := AS h
 have h8 := hg.g8
 obtain ⟨l1, l2, l3⟩ := (Vq hg hq _).1 (JG hk)
 obtain ⟨i1, a1⟩ := SB hT
 have hbd : ∀ i, i < (AP a.N T).all.length -> -1000000000 <= (gD (AP a.N T).all i).now /\ (gD (AP a.N T).all i).now <= 1000000000 := λ i hi => by have := i1.now i hi; have := i1.sp i hi; omega
 have hD := FN hg hs (by have := IZ hs; omega) a1 hbd
 have hin := XJ hT hs
 have bb : ∀ j, j < a.N.g.length -> -2 <= gD (gD (LN a q) k) j /\ gD (gD (LN a q) k) j <= 2 := λ j hj => by
  have := l2 j hj
  rw [Aq hj] at this
  split at this <;> omega
 have e := Rd hg hs a1 hD l1 bb hq
 have e0 : Gq a q k = KN ⟨a.N, gD (LN a q) k, JU a.N.g.length a.st a.st.length, q, -1⟩ a.N.g.length := rfl
 rw [e0, e]
 obtain ⟨g1, g2, g3, g4, g5, g6⟩ := hD
 obtain ⟨e1, e2, e3⟩ := EN a1
 have hnR : (AP a.N T).nR = a.N.r.length := rfl
 have hout : (AP a.N T).out = a.N.g.length := rfl
 have pl : ∀ v : Int, 0 <= v -> v < a.N.g.length -> Tb a.N (gD (LN a q) k) q v = -(gD (gD (LN a q) k) v.toNat) := λ v h0 h1 => by
  rw [Es _ q (by omega)]; unfold OG; rw [if_pos ⟨h0, by rw [l1]; exact h1⟩]
 have p0 : Tb a.N (gD (LN a q) k) q (a.N.g.length : Nat) = 0 := by rw [Es _ q (by omega)]; unfold OG; exact if_neg λ hh => by rw [l1] at hh; omega
 have p9 : Tb a.N (gD (LN a q) k) q ((a.N.g.length : Int) + 1) = -q := if_pos rfl
 have ris : ∀ i, i < a.N.r.length + a.N.g.length -> -1 <= BG (Tb a.N (gD (LN a q) k) q) (gD (CO (AP a.N T) a.st).all i) /\ BG (Tb a.N (gD (LN a q) k) q) (gD (CO (AP a.N T) a.st).all i) <= 1 := by
  refine FK (λ i hi => ?_) (λ j hj => ?_)
  ·obtain ⟨_, b1, b2, _⟩ := hg.r i hi
   obtain ⟨_, q2, q3⟩ := e2 i hi
   rw [g4 i (by omega)]
   rw [if_neg (by
    rintro ⟨x, hx, he⟩
    have := hs.mem x hx
    omega)]
   unfold BG
   rw [q2, q3, pl _ b2.1 b2.2, pl _ b1.1 b1.2]
   have := l3 i hi b1.2 b2.2
   have e4 : (Yu a q).N = a.N := rfl
   rw [e4] at this
   omega
  ·obtain ⟨_, q2, q3⟩ := e3 j hj
   rw [g4 (a.N.r.length + j) (by omega)]
   have hx : (∃ x ∈ a.st, ((a.N.r.length + j : Nat) : Int) = (AP a.N T).nR + x) ↔ (j : Int) ∈ a.st := by
    constructor
    ·rintro ⟨x, hx, he⟩
     have : x = j := by omega
     subst this; exact hx
    ·intro h; exact ⟨j, h, by omega⟩
   have p1 := pl (j : Nat) (by omega) (by omega)
   rw [Int.toNat_natCast] at p1
   have h2 := l2 j hj
   rw [Aq hj] at h2
   unfold BG
   by_cases hm : (j : Int) ∈ a.st
   ·rw [if_pos (hx.2 hm)]
    rw [if_pos hm] at h2
    simp only
    rw [q3, p1, hout, p9]; omega
   ·rw [if_neg λ h => hm (hx.1 h)]
    rw [if_neg hm] at h2
    rw [q2, q3, p1, p0]; omega
 have key := Hz hin (π := Tb a.N (gD (LN a q) k) q) (k := (AP a.N T).all.length) (by omega) λ i hi hne => ris i (by omega)
 rw [g5] at key
 unfold BG at key
 simp only at key
 rw [hout, p9, p0, hnR, PH hs] at key
 have : -q - 0 = -q := by omega
 rw [this] at key
 exact key
theorem Wd {a : NGr} (h : AC a.N = 0) (hc : BK a.N = 0) (hb : grpBad a.N.g.length (-1) a.st = false) {up : Bool} {x : Int} (hx : Vy (CO (AB a.N) a.st) (AB a.N).all.length up x) (hx2 : -8000000 <= x /\ x <= 8000000) :
  ∃ k, k < (LN a (if up then 1 else -1)).length /\ Gq a (if up then 1 else -1) k = if up then -x else x := by
 have hg := AS h
 have h8 := hg.g8
 have hs : Grp a.N.g.length a.st := (Ea ⟨hg.g1, h8⟩).1 hb
 obtain ⟨_, _, _, hL, _⟩ := PE h
 have hsm : ∀ i, i < (AB a.N).all.length -> -1000000000 <= (gD (AB a.N).all i).now /\ (gD (AB a.N).all i).now <= 1000000000 := λ i hi => by have := MB h hi; omega
 have hD := FN hg hs (by have := IZ hs; omega) hL hsm
 have hout : (AB a.N).out = a.N.g.length := hL.out
 have hnR : (AB a.N).nR = a.N.r.length := hL.nR
 obtain ⟨e1, e2, e3⟩ := EN hL
 rcases hx with hx | ⟨π, q1, q2, q3⟩
 ·rw [hD.last] at hx
  cases up <;> simp at hx <;> omega
 ·rw [hD.last] at q2
  unfold BG at q2
  simp only at q2
  rw [hout] at q2
  have df : ∀ a b, -1 <= π a - π b /\ π a - π b <= 1 := λ a b => by
   rcases q1 a with h1 | h1 <;> rcases q1 b with h2 | h2 <;> omega
  obtain ⟨q, hq⟩ : ∃ q : Int, q = if up then 1 else -1 := ⟨_, rfl⟩
  have hqq : q = π a.N.g.length - π ((a.N.g.length : Int) + 1) := by
   rw [hq]; cases up
   ·simp only [Bool.false_eq_true, if_false] at q2 ⊢; omega
   ·simp only [if_true] at q2 ⊢; omega
  have hqb : -1 <= q /\ q <= 1 := by rw [hqq]; exact df _ _
  have hok : LvOk (Yu a q) a.N.g.length (NX a.N π) := by
   refine ⟨XM _ _, λ j hj => ?_, λ i hi h1 h2 => ?_⟩
   ·rw [OK hj, Aq hj]
    have d1 := df a.N.g.length j
    have d2 := df ((a.N.g.length : Int) + 1) j
    split <;> omega
   ·have hi : i < a.N.r.length := hi
    have h1 : (gD a.N.r i).fr < a.N.g.length := h1
    have h2 : (gD a.N.r i).to < a.N.g.length := h2
    obtain ⟨_, b1, b2, _⟩ := hg.r i hi
    show -1 <= gD (NX a.N π) (gD a.N.r i).to.toNat - gD (NX a.N π) (gD a.N.r i).fr.toNat /\ gD (NX a.N π) (gD a.N.r i).to.toNat - gD (NX a.N π) (gD a.N.r i).fr.toNat <= 1
    rw [OK (by omega), OK (by omega)]
    have := df ((gD a.N.r i).fr.toNat : Nat) ((gD a.N.r i).to.toNat : Nat)
    omega
  obtain ⟨k, hk, he⟩ := WP ((Vq hg hqb _).2 hok)
  rw [<- hq]
  refine ⟨k, hk, ?_⟩
  have e0 : Gq a q k = KN ⟨a.N, gD (LN a q) k, JU a.N.g.length a.st a.st.length, q, -1⟩ a.N.g.length := rfl
  rw [e0, he, Rd hg hs hL hD (XM _ _) (λ j hj => by rw [OK hj]; have := df a.N.g.length j; omega) hqb, <- q3]
  have hp : ∀ v : Int, 0 <= v -> v <= (a.N.g.length : Int) + 1 -> Tb a.N (NX a.N π) q v = π v - π a.N.g.length := λ v h0 h1 => by
   by_cases hv : v = (a.N.g.length : Int) + 1
   ·subst hv; rw [show Tb a.N (NX a.N π) q ((a.N.g.length : Int) + 1) = -q from if_pos rfl]; omega
   ·rw [Es _ q (by omega), SN h0 (by omega)]
  refine Ji λ i hi => ?_
  have hlt : i < (AB a.N).all.length + 1 := by rw [<- hD.len]; exact hi
  have hen := (MG hg).alike hL
  unfold BG
  by_cases hi2 : i < (AB a.N).all.length
  ·have := hen.mem (JG hi2)
   rw [hD.way i hi2]
   split
   ·simp only
    rw [hp _ (by omega) (by omega), hp _ (by omega) (by omega)]; omega
   ·rw [hp _ (by omega) (by omega), hp _ (by omega) (by omega)]; omega
  ·rw [show i = (AB a.N).all.length by omega, hD.last]
   simp only
   rw [hp _ (by omega) (by omega), hp _ (by omega) (by omega)]; omega
theorem ACM {a : NGr} (h : AC a.N = 0) (hc : BK a.N = 0) (hb : grpBad a.N.g.length (-1) a.st = false) : Ms a 2 = NB a := by
 have hg := AS h
 have h8 := hg.g8
 have hs : Grp a.N.g.length a.st := (Ea ⟨hg.g1, h8⟩).1 hb
 obtain ⟨_, hS⟩ := Eb h hc hb
 obtain ⟨c1, c2⟩ := Tg h hc hb
 have bd : ∀ T, Can a.N T -> -8000000 <= MX a.st T /\ MX a.st T <= 8000000 := λ T hT => Av hs h8 λ j hj => by
  have h1 := ((PD h).1 hT).2.2.1 j hj
  have := hg.g j hj
  omega
 have g0 : EO 0 = -1 := by decide
 have g1 : EO 1 = 1 := by decide
 obtain ⟨Tl, cl, el⟩ := hS.lo
 obtain ⟨Th, ch, eh⟩ := hS.hi
 have bl := bd Tl cl
 have bh := bd Th ch
 have e : Ms a 2 = HO (HO ⟨-100000000, 100000000⟩ (λ _ => -1) (Gq a (-1)) (LN a (-1)).length) (λ _ => 1) (Gq a 1) (LN a 1).length := by
  simp only [Ms, g0, g1]
 obtain ⟨u1, u2, u3⟩ := WU (⟨-100000000, 100000000⟩ : Span) (rise := λ _ => -1) (rest := Gq a (-1)) (K := (LN a (-1)).length) λ k _ hk => absurd hk (by decide)
 obtain ⟨v1, v2, v3⟩ := VR (⟨-100000000, 100000000⟩ : Span) (rise := λ _ => -1) (rest := Gq a (-1)) (K := (LN a (-1)).length)
 rw [e]
 generalize HO ⟨-100000000, 100000000⟩ (λ _ => -1) (Gq a (-1)) (LN a (-1)).length = L at *
 obtain ⟨w1, w2, w3⟩ := VR L (rise := λ _ => 1) (rest := Gq a 1) (K := (LN a 1).length)
 have bk : ∀ k, k < (LN a 1).length -> -1000000000000 <= Gq a 1 k /\ Gq a 1 k <= 1000000000000 := λ k hk => by
  obtain ⟨l1, l2, l3⟩ := (Vq hg (by omega) _).1 (JG hk)
  have := AAN (a := ⟨a.N, gD (LN a 1) k, JU a.N.g.length a.st a.st.length, 1, -1⟩) hg (λ j hj => by
   have hj : j < a.N.g.length := hj
   have := l2 j hj
   rw [Aq hj] at this
   show -3 <= gD (gD (LN a 1) k) j /\ gD (gD (LN a 1) k) j <= 3
   split at this <;> omega) (by simp only; omega) (by simp only; omega)
  have e0 : Gq a 1 k = KN ⟨a.N, gD (LN a 1) k, JU a.N.g.length a.st a.st.length, 1, -1⟩ a.N.g.length := rfl
  rw [e0]
  have : KN ⟨a.N, gD (LN a 1) k, JU a.N.g.length a.st a.st.length, 1, -1⟩ a.N.g.length = KN (PvA.mk a.N (gD (LN a 1) k) (JU a.N.g.length a.st a.st.length) 1 (-1)) (PvA.mk a.N (gD (LN a 1) k) (JU a.N.g.length a.st a.st.length) 1 (-1)).N.g.length := rfl
  omega
 obtain ⟨x1, x2, x3⟩ := WU L (rise := λ _ => 1) (rest := Gq a 1) (K := (LN a 1).length) λ k hk _ => bk k hk
 have hLhi : L.hi = 100000000 := by
  rcases u3 with u3 | ⟨k, _, hk, _⟩
  ·exact u3
  ·exact absurd hk (by decide)
 have hlo : (HO L (λ _ => 1) (Gq a 1) (LN a 1).length).lo = (NB a).lo := by
  have e2 : (HO L (λ _ => 1) (Gq a 1) (LN a 1).length).lo = L.lo := by
   rcases w3 with w3 | ⟨k, _, hk, _⟩
   ·exact w3
   ·exact absurd hk (by decide)
  rw [e2]
  refine Int.le_antisymm ?_ ?_
  ·rw [<- el]
   rcases v3 with v3 | ⟨k, hk, _, hv⟩
   ·rw [v3]; simp only; omega
   ·have := AAB h hs (q := -1) (by omega) hk cl
    omega
  ·obtain ⟨k, hk, hv⟩ := Wd h hc hb c1 (by have : (NB a).lo = (NB ⟨a.N, a.st⟩).lo := rfl; omega)
   simp only [Bool.false_eq_true, if_false] at hk hv
   have := v2 k hk rfl
   have : (NB a).lo = (NB ⟨a.N, a.st⟩).lo := rfl
   omega
 have hhi : (HO L (λ _ => 1) (Gq a 1) (LN a 1).length).hi = (NB a).hi := by
  refine Int.le_antisymm ?_ ?_
  ·obtain ⟨k, hk, hv⟩ := Wd h hc hb c2 (by have : (NB a).hi = (NB ⟨a.N, a.st⟩).hi := rfl; omega)
   simp only [if_true] at hk hv
   have := x2 k hk rfl
   have : (NB a).hi = (NB ⟨a.N, a.st⟩).hi := rfl
   omega
  ·rw [<- eh]
   rcases x3 with x3 | ⟨k, hk, _, hv⟩
   ·omega
   ·have := AAB h hs (q := 1) (by omega) hk ch
    omega
 cases hx : HO L (λ _ => 1) (Gq a 1) (LN a 1).length with | mk p q =>
 cases hy : NB a with | mk r s =>
 rw [hx, hy] at hlo hhi
 simp only at hlo hhi
 rw [hlo, hhi]
theorem ACP (a : NGr) : Lh a = LG a /\ Tq a = Ku a := by
 have hR : Lh a = LG a := by
  rw [Pe]
  unfold Lh
  by_cases h : AC a.N = 0
  ·rw [if_pos h, if_pos h]
   by_cases hb : grpBad a.N.g.length (-1) a.st = true ∨ a.st.length = 0
   ·rw [if_pos hb, if_pos hb]
   ·rw [if_neg hb, if_neg hb, VV]
    unfold FF; rw [if_pos h]
  ·rw [if_neg h, if_neg h]
 refine ⟨hR, ?_⟩
 unfold Tq Ku
 rw [hR]
 by_cases h : LG a = 0
 ·rw [if_pos h, if_pos h]
  obtain ⟨h1, h2, _, h4⟩ := Gz.1 h
  exact ACM h1 h4 h2
 ·rw [if_neg h, if_neg h]
end Go.Bal

namespace Go.Bal
open Go Go.Sym Go.Proofs
structure NRG where
 N : NetL
 r : Int
 f : Int
 st : List Int
def xs7 (a : NRG) : List AVal := [.d (EI a.N), .int a.r, .int a.f, .d (AW a.st)]
def A7 := ann 147 [(13, C13.spec dN), (14, s14), (15, C15.spec QO), (16, C16.spec d16), (17, C17.spec d17), (34, C34t.spec dN), (36, C36.spec dN), (37, C37.spec d37), (38, C38t.spec d38), (39, C39.spec d38), (40, C48.spec d48), (35, C35t.spec dGr), (41, C41.spec dGr), (27, C27.spec d27), (28, C28.spec d28)]
def V7 (a : NRG) : Prop := BC Try.prog A7 Try.f7 (AH Try.f7) (xs7 a) (AE []) (.bool true) [] [] []
theorem vc7 (a : NRG) : (V7 a) = (let q := a
 let y0 : List Span := AD q.N.g.length λ (i : Nat) => gD q.N.g i
 let y1 := y0.length
 let y2 := y1 = q.N.g.length
 let y3 (i : Nat) : Span := gD y0 i
 let y4 (i : Nat) := (y3 i).lo
 let y5 (i : Nat) := (y3 i).hi
 let y6 := ∀ (i : Nat), i < y1 -> y4 i = (gD q.N.g i).lo /\ y5 i = (gD q.N.g i).hi
 let y7 : List Reach := AD q.N.r.length λ (i : Nat) => gD q.N.r i
 let y8 := y7.length
 let y9 := y8 = q.N.r.length
 let y10 (i : Nat) : Reach := gD y7 i
 let y11 (i : Nat) := (y10 i).fr
 let y12 (i : Nat) := (y10 i).to
 let y13 (i : Nat) : Span := (y10 i).sp
 let y14 (i : Nat) := (y13 i).lo
 let y15 (i : Nat) := (y13 i).hi
 let y16 := ∀ (i : Nat), i < y8 -> y11 i = (gD q.N.r i).fr /\ y12 i = (gD q.N.r i).to /\ y14 i = (gD q.N.r i).sp.lo /\ y15 i = (gD q.N.r i).sp.hi
 let y17 : NetL := NetL.mk y0 y7
 let y18 := y1 <= 1000000
 let y19 := y8 <= 1000000
 let y20 : List Int := AD q.st.length λ (i : Nat) => gD q.st i
 let y21 := y20.length
 let y22 := y21 = q.st.length
 let y23 (i : Nat) := gD y20 i
 let y24 := ∀ (i : Nat), i < y21 -> y23 i = gD q.st i
 let y25 := y21.le 1000000
 let y26 : List Span := AD y1 λ (i : Nat) => y3 i
 let y27 := y26.length
 let y28 := y27 = y1
 let y29 (i : Nat) : Span := gD y26 i
 let y30 := ∀ (i : Nat), i < y27 -> (y29 i).lo = y4 i /\ (y29 i).hi = y5 i
 let y31 : List Reach := AD y8 λ (i : Nat) => y10 i
 let y32 := y31.length
 let y33 := y32 = y8
 let y34 (i : Nat) : Reach := gD y31 i
 let y35 (i : Nat) : Span := (y34 i).sp
 let y36 := ∀ (i : Nat), i < y32 -> (y34 i).fr = y11 i /\ (y34 i).to = y12 i /\ (y35 i).lo = y14 i /\ (y35 i).hi = y15 i
 let y37 := y27 <= 1000000 /\ y32 <= 1000000
 let y38 : NetL := NetL.mk y26 y31
 let y39 := FF y38 != KP y38
 let y40 : List Span := Af y38
 let y41 := y40.length
 let y42 (i : Nat) : Span := gD y40 i
 let y43 : List Span := AD y41 λ (i : Nat) => y42 i
 let y44 := y43.length
 let y45 (i : Nat) : Span := gD y43 i
 let y46 : List Span := QN y38
 let y47 := y46.length
 let y48 (i : Nat) : Span := gD y46 i
 let y49 : List Span := AD y47 λ (i : Nat) => y48 i
 let y50 := y49.length
 let y51 (i : Nat) : Span := gD y49 i
 let y52 := bif y39 then true else !decide (y43 = y49)
 let y53 : List Span := Bm y38
 let y54 := y53.length
 let y55 (i : Nat) : Span := gD y53 i
 let y56 : List Span := AD y54 λ (i : Nat) => y55 i
 let y57 := y56.length
 let y58 (i : Nat) : Span := gD y56 i
 let y59 : List Span := Et y38
 let y60 := y59.length
 let y61 (i : Nat) : Span := gD y59 i
 let y62 : List Span := AD y60 λ (i : Nat) => y61 i
 let y63 := y62.length
 let y64 (i : Nat) : Span := gD y62 i
 let y65 : NRF := NRF.mk y38 q.r q.f
 let y66 := BS y65
 let y67 : TruthL := Aa y65
 let y68 : List Int := y67.f
 let y69 := y68.length
 let y70 : List Int := y67.t
 let y71 := y70.length
 let y72 (i : Nat) := gD y68 i
 let y73 : List Int := AD y69 λ (i : Nat) => y72 i
 let y74 := y73.length
 let y75 (i : Nat) := gD y70 i
 let y76 : List Int := AD y71 λ (i : Nat) => y75 i
 let y77 := y76.length
 let y78 : TruthL := TruthL.mk y73 y76
 let y79 := bif EK y38 y78 != 0 then true else !ZF y38 y78
 let y80 : List Int := AD y21 λ (i : Nat) => y23 i
 let y81 := y80.length
 let y82 := y81 = y21
 let y83 := ∀ (i : Nat), i < y81 -> gD y80 i = y23 i
 let y84 : NGr := NGr.mk y38 y80
 let y85 : NGr := NGr.mk y38 y20
 let y86 : Span := Ku y84
 let y87 : Span := Tq y85
 let y88 := bif LG y84 == Lh y85 then y86.lo == y87.lo && (y86.hi == y87.hi && true) else false
 let y89 := bif y88 then decide (y38 = y17) else false
 let y90 := (y28 /\ y30 /\ y33 /\ y36 /\ y82 /\ y83 /\ y81.le 1000000) /\ (y28 /\ y30 /\ y33 /\ y36 /\ y22 /\ y24 /\ y37 /\ y25) /\ ((y88 = true -> y28 /\ y30 /\ y33 /\ y36 /\ y2 /\ y6 /\ y9 /\ y16 /\ y37 /\ y18 /\ y19) /\ (y89 = true -> y82 /\ y83 /\ y22 /\ y24 /\ y81 < 4611686018427387904 /\ y21.succ.le 4611686018427387904)) /\ true = bif bif y89 then decide (y80 = y20) else false then true else false
 ((y2 /\ y6 /\ y9 /\ y16) /\ bif bif Jf y17 then true else decide ((↑a.st.length : Int) > 10) then true = true else (y2 /\ y6 /\ y9 /\ y16 /\ y18 /\
 y19 /\ y22 /\ y24 /\ y25) /\ (y2 /\ y6 /\ y9 /\ y16 /\ y18 /\ y8.le 1000000) /\ (y28 /\ y30 /\ y33 /\ y36) /\ (y28 /\ y30 /\ y33 /\ y36 /\ y37) /\ (((!y39) =
 true -> y44 = y41 /\ (∀ (i : Nat), i < y44 -> (y45 i).lo = (y42 i).lo /\ (y45 i).hi = (y42 i).hi) /\ y50 = y47 /\ (∀ (i : Nat), i < y50 -> (y51 i).lo = (y48 i).lo /\ (y51 i).hi
 = (y48 i).hi) /\ y44 < 4611686018427387904 /\ y50.succ.le 4611686018427387904) /\ ((!y52) = true -> y57 = y54 /\ (∀ (i : Nat), i < y57 -> (y58 i).lo = (y55 i).lo /\ (y58 i).hi = (y55 i).hi) /\ y63 = y60 /\ (∀ (i : Nat), i < y63 -> (y64 i).lo = (y61 i).lo /\ (y64 i).hi = (y61 i).hi) /\ y57 < 4611686018427387904 /\ y63.succ.le 4611686018427387904)) /\ bif bif y52
 then true else !decide (y56 = y62) then true = false else (y28 /\ y30 /\ y33 /\ y36 /\ a.r = a.r /\ a.f = a.f) /\ (y28 /\ y30 /\ y33 /\ y36 /\ a.r = a.r /\ a.f = a.f /\ y37) /\ bif bif
 y66 != YO y65 then true else bif y66 != 0 then decide (IntKind.i64.wrap ((↑y69 : Int) + (↑y71 : Int)) > 0) else false then true = false else bif y66 == 0 then (y28 /\ y30 /\ y33
 /\ y36 /\ y74 = y69 /\ (∀ (i : Nat), i < y74 -> gD y73 i = y72 i) /\ y77 = y71 /\ (∀ (i : Nat), i < y77 -> gD y76 i = y75 i) /\ y37 /\ y74 <= 1000000 /\ y77 <= 1000000) /\
 ((!y79) = true -> 0 <= a.r /\ a.r < (↑y69 : Int)) /\ bif bif y79 then true else gD y68 a.r.toNat != a.f then true = false else y90 else y90)) := by kernel_rfl
theorem AAV {a : NRF} (h : BS a = 0) : Can a.N (Aa a) /\ gD (Aa a).f a.r.toNat = a.f /\ 0 <= a.r /\ a.r < a.N.r.length := by
 obtain ⟨c1, c2, c3, c4, c5⟩ := XS h
 obtain ⟨N, r, f⟩ := a
 simp only at c1 c2 c3 c4 c5 ⊢
 have c2 := BI.1 c2
 have hn := FY c1
 have := (VI c1 (by omega) (r := r.toNat) (by omega) (f := f) (BI.1 c4)).2.2
 rw [show ((r.toNat : Nat) : Int) = r by omega] at this
 have et : Aa ⟨N, r, f⟩ = AL (NRF.mk N r f).res.1 := if_pos h
 rw [et]
 obtain ⟨p, q⟩ := this c5
 exact ⟨p, q, by omega, by omega⟩
theorem Uq (N : NetL) : (Af N).length <= N.r.length /\ (Bm N).length <= N.g.length := by
 unfold Af Bm
 by_cases h : FF N = 0
 ·rw [if_pos h, if_pos h]
  obtain ⟨a, b⟩ := Pd (OP.1 h).1
  omega
 ·rw [if_neg h, if_neg h]; simp
theorem Zg {N : NetL} {n : Nat} (h : (bif Jf N then true else decide ((n : Int) > 10)) = false) : N.g.length <= 10 /\ N.r.length <= 17 /\ n <= 10 := by
 unfold Jf at h
 by_cases a : N.g.length > 10
 ·simp [a] at h
 ·by_cases b : N.r.length > 17
  ·simp [b] at h
  ·by_cases c : (n : Int) > 10
   ·simp [c] at h
   ·omega
theorem p7 (a : NRG) : V7 a := by
 obtain ⟨N, r, f, st⟩ := a
 have et : NetL.mk N.g N.r = N := rfl
 have ets : ∀ T : TruthL, TruthL.mk T.f T.t = T := λ _ => rfl
 obtain ⟨x1, x2⟩ := Vi N
 obtain ⟨y1, y2⟩ := ACP ⟨N, st⟩
 obtain ⟨f1, f2⟩ := Uq N
 rw [vc7]; (conv => zeta); simp only [CC, eq_self, implies_true, forall_const, et, ets, x1, x2, y1, y2, VV, AAU]
 intro hb
 obtain ⟨s1, s2, s3⟩ := Zg hb
 clear hb
 have b1 : N.g.length <= 1000000 := by omega
 have b2 : N.r.length <= 1000000 := by omega
 have b3 : st.length <= 1000000 := by omega
 have b4 : st.length < 4611686018427387904 := by omega
 have b5 : (Af N).length < 4611686018427387904 := by omega
 have b6 : (Bm N).length < 4611686018427387904 := by omega
 by_cases hr : BS ⟨N, r, f⟩ = 0
 ·obtain ⟨hT, hf, r0, r1⟩ := AAV hr
  simp only at hT hf r0 r1
  obtain ⟨v1, v2, v3, v4, v5⟩ := Wm hT
  obtain ⟨_, u1, u2, _⟩ := NH hT.ask
  have b7 : (Aa ⟨N, r, f⟩).f.length <= 1000000 := by omega
  have b8 : (Aa ⟨N, r, f⟩).t.length <= 1000000 := by omega
  rw [hr, v1, v3, hf, u1]
  rw [u1] at b7
  simp [b1, b2, b3, b4, b5, b6, b7, b8, r0, r1]
 ·have e2 : Aa ⟨N, r, f⟩ = zT := if_neg hr
  have z1 : zT.f.length = 0 := rfl
  have z2 : zT.t.length = 0 := rfl
  have wz : IntKind.i64.wrap (((0 : Nat) : Int) + ((0 : Nat) : Int)) = 0 := by decide
  rw [e2, z1, z2, wz]
  simp [b1, b2, b3, b4, b5, b6, hr]
theorem c7 (a : NRG) : FnT Try.prog 7 (xs7 a) (AE []) (.bool true) [] :=
 NE (A := A7) (ren := []) (fz := []) Try.func7 (by kernel_rfl) (AA ok13 (AA ok14 (AA ok15 (AA ok16 (AA ok17 (AA ACV (AA ok36 (AA ok37 (AA ACE (AA ok39 (AA ok40 (AA ADB (AA ok41 (AA ok27 (AA ok28 AF))))))))))))))) (p7 a)
end Go.Bal
