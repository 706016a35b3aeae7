/- The reference: spans, Reach2 and Group are what is returned. -/
import Derived.Test.YtonddbmhljelgaaBalLv6
import Derived.Test.YtonddbmhljelgaaBalLvU
set_option linter.unusedVariables false
set_option linter.unusedSimpArgs false
namespace Go.Bal
open Go
variable {N : NetL} {T : TruthL}
theorem vH {s : Span} {r1 r2 p1 p2 : Nat -> Int} : ∀ {K : Nat}, (∀ k, k < K -> r1 k = r2 k /\ p1 k = p2 k) -> ZM s r1 p1 K = ZM s r2 p2 K
 | 0, _ => rfl
 | K + 1, h => by
  obtain ⟨a, b⟩ := h K (by omega)
  simp only [ZM]
  rw [vH λ k hk => h k (by omega), a, b]
theorem BOC (h : AB N = 0) (hc : EV N = 0) {i : Nat} (hi : i < N.r.length) : rfS N i (BS N).length = gD (Zj N) i := by
 have hg := BB h
 have h14 := hg.r14
 obtain ⟨_, e2, _⟩ := OC (Alike.refl (AO N))
 obtain ⟨a, b, c⟩ := e2 i hi
 rw [BBW h hi, <- ARQ h hc (k := i) (s := (i : Int)) (by omega) (by omega) (λ j hj => by omega) (λ j hj => by omega)]
 unfold rfS Q8
 rw [a]
 refine vH λ q hq => ⟨?_, rfl⟩
 obtain ⟨vl, vb⟩ := XK (gA h hq)
 have := Pd hg vl (by rw [vl]; exact vb) hi
 unfold F7 CJ
 rw [b, c]
 have e : rsR N ⟨i, q⟩ = Ll (gD (BS N) q) (gD N.r i) := rfl
 show rsR N ⟨i, q⟩ = _
 rw [e]; omega
theorem BOS (h : AB N = 0) (hc : EV N = 0) {j : Nat} (hj : j < N.g.length) : rgS N j (BS N).length = gD (qL N) j := by
 have hg := BB h
 have h14 := hg.r14
 have h8 := hg.g8
 obtain ⟨_, _, e3⟩ := OC (Alike.refl (AO N))
 obtain ⟨a, b, c⟩ := e3 j hj
 have ew : wr ((j : Int) + 100) = (j : Int) + 100 := Gp (by omega) (by omega)
 rw [BLL h hj, <- ARQ h hc (k := N.r.length + j) (s := (j : Int) + 100) (by omega) (by omega) (λ i hi => by omega) (λ i hi => by omega)]
 unfold rgS Q8
 rw [a, ew]
 refine vH λ q hq => ⟨?_, rfl⟩
 obtain ⟨vl, vb⟩ := XK (gA h hq)
 unfold F7 CJ
 rw [b, c]
 have p1 : Yk (gD (BS N) q) (j : Nat) = -(gD (gD (BS N) q) j) := by unfold Yk; rw [if_pos ⟨by omega, by rw [vl]; omega⟩]; simp
 have p2 : Yk (gD (BS N) q) (N.g.length : Nat) = 0 := by unfold Yk; exact if_neg λ hh => by rw [vl] at hh; omega
 rw [p1, p2]; omega
theorem BIT (N : NetL) : rspF N = S0 N /\ D0 N = fitG N := by
 unfold rspF D0 S0 fitG
 rw [vU]
 by_cases h : WM N = 0
 ·rw [if_pos h, if_pos h, if_pos h, if_pos h]
  obtain ⟨hc, hs⟩ := Yy.1 h
  obtain ⟨l1, l2⟩ := AXP hc
  exact ⟨Jc (by rw [S2, l1]) λ i hi => by rw [S2] at hi; rw [ANG hi, BOC hc hs hi], Jc (by rw [ANM, l2]) λ i hi => by rw [ANM] at hi; rw [AOK hi, BOS hc hs hi]⟩
 ·rw [if_neg h, if_neg h, if_neg h, if_neg h]; exact ⟨rfl, rfl⟩
theorem BNE (a : NRF) : J5 a = FC a := by
 obtain ⟨N, r, f⟩ := a
 unfold J5
 simp only
 rw [vU, (BIT N).1]
 by_cases hc : AB N = 0
 ·rw [if_pos hc]
  by_cases hr : inM r 0 (N.r.length - 1) = true
  ·rw [if_pos hr]
   have hr' := CV.1 hr
   have hn := TJ hc
   by_cases hz : EV N = 0
   ·have hf : WM N = 0 := Yy.2 ⟨hc, hz⟩
    rw [if_pos hf, show S0 N = Zj N from if_pos hf]
    have hir : r.toNat < N.r.length := by omega
    by_cases hb : inM f (-100000000) 100000000 = true
    ·have := BDO hc hz hir (CV.1 hb)
     rw [show ((r.toNat : Nat) : Int) = r by omega] at this
     rw [this]
     by_cases hi : inM f (gD (Zj N) r.toNat).lo (gD (Zj N) r.toNat).hi = true
     ·rw [if_pos hi, if_pos (CV.1 hi)]
     ·rw [if_neg hi, if_neg λ h => hi (CV.2 h)]
    ·have e : FC ⟨N, r, f⟩ = 5 := by
      unfold FC; simp only
      rw [if_pos hc, if_pos hr, if_neg (by omega), if_neg hb]
     rw [e, if_neg]
     intro hi
     refine hb (CV.2 ?_)
     have hi := CV.1 hi
     have hS := AIK hc hz hir
     obtain ⟨T1, c1, e1⟩ := hS.lo
     obtain ⟨T2, c2, e2⟩ := hS.hi
     have g1 := ((bR hc).1 c1).2.1 r.toNat hir
     have g2 := ((bR hc).1 c2).2.1 r.toNat hir
     have := ((BB hc).r r.toNat hir).1
     omega
   ·have hf : WM N = 6 := by unfold WM; rw [if_pos hc, if_pos (by omega)]
    rw [hf, if_neg (by decide)]
    unfold FC; simp only
    rw [if_pos hc, if_pos hr, if_pos (by omega)]
  ·rw [if_neg hr]
   unfold FC; simp only
   rw [if_pos hc, if_neg hr]
 ·rw [if_neg hc]
  unfold FC; simp only
  rw [if_neg hc]
def piG (N : NetL) (lv : List Int) (q : Int) (v : Int) : Int := if v = (N.g.length : Int) + 1 then -q else Yk lv v
theorem AEC (lv : List Int) (q : Int) {v : Int} (h : v <= N.g.length) : piG N lv q v = Yk lv v := if_neg (by omega)
theorem ABL {n : Nat} {st : List Int} {j : Nat} (hj : j < n) : gD (Mw n st st.length) j = decide ((j : Int) ∈ st) := by
 unfold Mw
 rw [DY (λ (j : Nat) => decide ((j : Int) ∈ st.take st.length)) hj, List.take_length]
theorem AYI (hg : Good N) {st : List Int} (hs : Grp N.g.length st) {d : Desk} (hd : Alike (AO N) d) (hD : GD N st d) {lv : List Int} (hl : lv.length = N.g.length) (hb : ∀ j, j < N.g.length -> -2 <= gD lv j /\ gD lv j <= 2) {q : Int} (hq : -1 <= q /\ q <= 1) :
  Pr ⟨N, lv, Mw N.g.length st st.length, q, -1⟩ N.g.length = El (piG N lv q) (GH d st).all d.all.length := by
 obtain ⟨g1, g2, g3, g4, g5, g6⟩ := hD
 obtain ⟨e1, e2, e3⟩ := OC hd
 have hnR : d.nR = N.r.length := hd.nR
 have hout : d.out = N.g.length := hd.out
 rw [AUQ (a := ⟨N, lv, Mw N.g.length st st.length, q, -1⟩) hg (λ j hj => by have := hb j hj; show -3 <= gD lv j /\ gD lv j <= 3; omega) hq (by simp only; omega)]
 unfold El
 rw [g1]
 simp only [DG]
 rw [if_pos trivial, Int.add_zero, e1, Il]
 have pl : ∀ v : Int, 0 <= v -> v < N.g.length -> piG N lv q v = -(gD lv v.toNat) := λ v h0 h1 => by
  rw [AEC lv q (by omega)]; unfold Yk; rw [if_pos ⟨h0, by rw [hl]; exact h1⟩]
 congr 1
 ·refine BQ λ i hi => ?_
  have hi : i < N.r.length := hi
  obtain ⟨a, b, c⟩ := e2 i hi
  obtain ⟨_, b1, b2, _⟩ := hg.r i hi
  rw [if_neg (by show ¬ (i : Int) = -1; omega), if_neg (by omega), g4 i (by omega), if_neg (by
   rintro ⟨x, hx, he⟩
   have := hs.mem x hx
   omega)]
  unfold CJ
  rw [a, b, c, pl _ b2.1 b2.2, pl _ b1.1 b1.2]
  congr 1
  show -(gD lv (gD N.r i).to.toNat - gD lv (gD N.r i).fr.toNat) = _
  omega
 ·refine BQ λ j hj => ?_
  have hj : j < N.g.length := hj
  obtain ⟨a, b, c⟩ := e3 j hj
  rw [if_neg (by show ¬ (j : Int) = -1 - 100; omega), if_neg (by omega), g4 (N.r.length + j) (by omega)]
  have hx : (∃ x ∈ st, ((N.r.length + j : Nat) : Int) = d.nR + x) ↔ (j : Int) ∈ st := by
   constructor
   ·rintro ⟨x, hx, he⟩
    have : x = j := by omega
    subst this; exact hx
   ·intro h; exact ⟨j, h, by omega⟩
  unfold CJ
  have p1 := pl (j : Nat) (by omega) (by omega)
  rw [Int.toNat_natCast] at p1
  by_cases hm : (j : Int) ∈ st
  ·rw [if_pos (hx.2 hm)]
   have hbp : Gd ⟨N, lv, Mw N.g.length st st.length, q, -1⟩ j = q := by
    unfold Gd; simp only; rw [ABL hj, decide_eq_true hm]; rfl
   have p2 : piG N lv q ((d.out : Int) + 1) = -q := if_pos (by omega)
   simp only
   rw [a, c, p1, p2, hbp]
   congr 1; omega
  ·rw [if_neg λ h => hm (hx.1 h)]
   have hbp : Gd ⟨N, lv, Mw N.g.length st st.length, q, -1⟩ j = 0 := by
    unfold Gd; simp only; rw [ABL hj, decide_eq_false hm]; rfl
   have p2 : piG N lv q (N.g.length : Nat) = 0 := by rw [AEC lv q (by omega)]; unfold Yk; exact if_neg λ hh => by rw [hl] at hh; omega
   rw [a, b, c, p1, p2, hbp]
   congr 1; omega
theorem BGW {a : NGr} (hg : Good a.N) {q : Int} (hq : -1 <= q /\ q <= 1) (lv : List Int) : lv ∈ Yj a q ↔ LvOk (gsA a q) a.N.g.length lv := pB (a := gsA a q) hg hq _ _
theorem T5 {a : NGr} {q : Int} {j : Nat} (hj : j < a.N.g.length) : Ss (gsA a q) j = if (j : Int) ∈ a.st then q else 0 := by
 unfold Ss gsA
 simp only
 rw [ABL hj]
 by_cases h : (j : Int) ∈ a.st
 ·rw [if_pos h, decide_eq_true h]; rfl
 ·rw [if_neg h, decide_eq_false h]; rfl
theorem BMS {a : NGr} (h : AB a.N = 0) (hs : Grp a.N.g.length a.st) {q : Int} (hq : -1 <= q /\ q <= 1) {k : Nat} (hk : k < (Yj a q).length) (hT : Can a.N T) : gsP a q k <= -q * Qq a.st T := by
 have hg := BB h
 have h8 := hg.g8
 obtain ⟨l1, l2, l3⟩ := (BGW hg hq _).1 (Fi hk)
 obtain ⟨i1, a1⟩ := lS hT
 have hbd : ∀ i, i < (AV a.N T).all.length -> -1000000000 <= (gD (AV a.N T).all i).now /\ (gD (AV a.N T).all i).now <= 1000000000 := λ i hi => by have := i1.now i hi; have := i1.sp i hi; omega
 have hD := RC hg hs (by have := Eg hs; omega) a1 hbd
 have hin := vT hT hs
 have bb : ∀ j, j < a.N.g.length -> -2 <= gD (gD (Yj a q) k) j /\ gD (gD (Yj a q) k) j <= 2 := λ j hj => by
  have := l2 j hj
  rw [T5 hj] at this
  split at this <;> omega
 have e := AYI hg hs a1 hD l1 bb hq
 have e0 : gsP a q k = Pr ⟨a.N, gD (Yj a q) k, Mw a.N.g.length a.st a.st.length, q, -1⟩ a.N.g.length := rfl
 rw [e0, e]
 obtain ⟨g1, g2, g3, g4, g5, g6⟩ := hD
 obtain ⟨e1, e2, e3⟩ := OC a1
 have hnR : (AV a.N T).nR = a.N.r.length := rfl
 have hout : (AV a.N T).out = a.N.g.length := rfl
 have pl : ∀ v : Int, 0 <= v -> v < a.N.g.length -> piG a.N (gD (Yj a q) k) q v = -(gD (gD (Yj a q) k) v.toNat) := λ v h0 h1 => by
  rw [AEC _ q (by omega)]; unfold Yk; rw [if_pos ⟨h0, by rw [l1]; exact h1⟩]
 have p0 : piG a.N (gD (Yj a q) k) q (a.N.g.length : Nat) = 0 := by rw [AEC _ q (by omega)]; unfold Yk; exact if_neg λ hh => by rw [l1] at hh; omega
 have p9 : piG a.N (gD (Yj a q) k) q ((a.N.g.length : Int) + 1) = -q := if_pos rfl
 have ris : ∀ i, i < a.N.r.length + a.N.g.length -> -1 <= CJ (piG a.N (gD (Yj a q) k) q) (gD (GH (AV a.N T) a.st).all i) /\ CJ (piG a.N (gD (Yj a q) k) q) (gD (GH (AV a.N T) a.st).all i) <= 1 := by
  refine QQ (λ i hi => ?_) (λ j hj => ?_)
  ·obtain ⟨_, b1, b2, _⟩ := hg.r i hi
   obtain ⟨_, q2, q3⟩ := e2 i hi
   rw [g4 i (by omega)]
   rw [if_neg (by
    rintro ⟨x, hx, he⟩
    have := hs.mem x hx
    omega)]
   unfold CJ
   rw [q2, q3, pl _ b2.1 b2.2, pl _ b1.1 b1.2]
   have := l3 i hi b1.2 b2.2
   have e4 : (gsA a q).N = a.N := rfl
   rw [e4] at this
   omega
  ·obtain ⟨_, q2, q3⟩ := e3 j hj
   rw [g4 (a.N.r.length + j) (by omega)]
   have hx : (∃ x ∈ a.st, ((a.N.r.length + j : Nat) : Int) = (AV a.N T).nR + x) ↔ (j : Int) ∈ a.st := by
    constructor
    ·rintro ⟨x, hx, he⟩
     have : x = j := by omega
     subst this; exact hx
    ·intro h; exact ⟨j, h, by omega⟩
   have p1 := pl (j : Nat) (by omega) (by omega)
   rw [Int.toNat_natCast] at p1
   have h2 := l2 j hj
   rw [T5 hj] at h2
   unfold CJ
   by_cases hm : (j : Int) ∈ a.st
   ·rw [if_pos (hx.2 hm)]
    rw [if_pos hm] at h2
    simp only
    rw [q3, p1, hout, p9]; omega
   ·rw [if_neg λ h => hm (hx.1 h)]
    rw [if_neg hm] at h2
    rw [q2, q3, p1, p0]; omega
 have key := AOD hin (π := piG a.N (gD (Yj a q) k) q) (k := (AV a.N T).all.length) (by omega) λ i hi hne => ris i (by omega)
 rw [g5] at key
 unfold CJ at key
 simp only at key
 rw [hout, p9, p0, hnR, fE hs] at key
 have : -q - 0 = -q := by omega
 rw [this] at key
 exact key
theorem BDX {a : NGr} (h : AB a.N = 0) (hc : EV a.N = 0) (hb : grpBad a.N.g.length (-1) a.st = false) {up : Bool} {x : Int} (hx : Cut (GH (AI a.N) a.st) (AI a.N).all.length up x) (hx2 : -8000000 <= x /\ x <= 8000000) :
  ∃ k, k < (Yj a (if up then 1 else -1)).length /\ gsP a (if up then 1 else -1) k = if up then -x else x := by
 have hg := BB h
 have h8 := hg.g8
 have hs : Grp a.N.g.length a.st := (AEN ⟨hg.g1, h8⟩).1 hb
 obtain ⟨_, _, _, hL, _⟩ := cN h
 have hsm : ∀ i, i < (AI a.N).all.length -> -1000000000 <= (gD (AI a.N).all i).now /\ (gD (AI a.N).all i).now <= 1000000000 := λ i hi => by have := Pv h hi; omega
 have hD := RC hg hs (by have := Eg hs; omega) hL hsm
 have hout : (AI a.N).out = a.N.g.length := hL.out
 have hnR : (AI a.N).nR = a.N.r.length := hL.nR
 obtain ⟨e1, e2, e3⟩ := OC hL
 rcases hx with hx | ⟨π, q1, q2, q3⟩
 ·rw [hD.last] at hx
  cases up <;> simp at hx <;> omega
 ·rw [hD.last] at q2
  unfold CJ at q2
  simp only at q2
  rw [hout] at q2
  have df : ∀ a b, -1 <= π a - π b /\ π a - π b <= 1 := λ a b => by
   rcases q1 a with h1 | h1 <;> rcases q1 b with h2 | h2 <;> omega
  obtain ⟨q, hq⟩ : ∃ q : Int, q = if up then 1 else -1 := ⟨_, rfl⟩
  have hqq : q = π a.N.g.length - π ((a.N.g.length : Int) + 1) := by
   rw [hq]; cases up
   ·simp only [Bool.false_eq_true, if_false] at q2 ⊢; omega
   ·simp only [if_true] at q2 ⊢; omega
  have hqb : -1 <= q /\ q <= 1 := by rw [hqq]; exact df _ _
  have hok : LvOk (gsA a q) a.N.g.length (Wf a.N π) := by
   refine ⟨zY _ _, λ j hj => ?_, λ i hi h1 h2 => ?_⟩
   ·rw [aB hj, T5 hj]
    have d1 := df a.N.g.length j
    have d2 := df ((a.N.g.length : Int) + 1) j
    split <;> omega
   ·have hi : i < a.N.r.length := hi
    have h1 : (gD a.N.r i).fr < a.N.g.length := h1
    have h2 : (gD a.N.r i).to < a.N.g.length := h2
    obtain ⟨_, b1, b2, _⟩ := hg.r i hi
    show -1 <= gD (Wf a.N π) (gD a.N.r i).to.toNat - gD (Wf a.N π) (gD a.N.r i).fr.toNat /\ gD (Wf a.N π) (gD a.N.r i).to.toNat - gD (Wf a.N π) (gD a.N.r i).fr.toNat <= 1
    rw [aB (by omega), aB (by omega)]
    have := df ((gD a.N.r i).fr.toNat : Nat) ((gD a.N.r i).to.toNat : Nat)
    omega
  obtain ⟨k, hk, he⟩ := xF ((BGW hg hqb _).2 hok)
  rw [<- hq]
  refine ⟨k, hk, ?_⟩
  have e0 : gsP a q k = Pr ⟨a.N, gD (Yj a q) k, Mw a.N.g.length a.st a.st.length, q, -1⟩ a.N.g.length := rfl
  rw [e0, he, AYI hg hs hL hD (zY _ _) (λ j hj => by rw [aB hj]; have := df a.N.g.length j; omega) hqb, <- q3]
  have hp : ∀ v : Int, 0 <= v -> v <= (a.N.g.length : Int) + 1 -> piG a.N (Wf a.N π) q v = π v - π a.N.g.length := λ v h0 h1 => by
   by_cases hv : v = (a.N.g.length : Int) + 1
   ·subst hv; rw [show piG a.N (Wf a.N π) q ((a.N.g.length : Int) + 1) = -q from if_pos rfl]; omega
   ·rw [AEC _ q (by omega), oS h0 (by omega)]
  refine AMF λ i hi => ?_
  have hlt : i < (AI a.N).all.length + 1 := by rw [<- hD.len]; exact hi
  have hen := (Pt hg).alike hL
  unfold CJ
  by_cases hi2 : i < (AI a.N).all.length
  ·have := hen.mem (Fi hi2)
   rw [hD.way i hi2]
   split
   ·simp only
    rw [hp _ (by omega) (by omega), hp _ (by omega) (by omega)]; omega
   ·rw [hp _ (by omega) (by omega), hp _ (by omega) (by omega)]; omega
  ·rw [show i = (AI a.N).all.length by omega, hD.last]
   simp only
   rw [hp _ (by omega) (by omega), hp _ (by omega) (by omega)]; omega
theorem BPQ {a : NGr} (h : AB a.N = 0) (hc : EV a.N = 0) (hb : grpBad a.N.g.length (-1) a.st = false) : gsM a 2 = To a := by
 have hg := BB h
 have h8 := hg.g8
 have hs : Grp a.N.g.length a.st := (AEN ⟨hg.g1, h8⟩).1 hb
 obtain ⟨_, hS⟩ := AGM h hc hb
 obtain ⟨c1, c2⟩ := BDR h hc hb
 have bd : ∀ T, Can a.N T -> -8000000 <= Qq a.st T /\ Qq a.st T <= 8000000 := λ T hT => S5 hs h8 λ j hj => by
  have h1 := ((bR h).1 hT).2.2.1 j hj
  have := hg.g j hj
  omega
 have g0 : Ng 0 = -1 := by decide
 have g1 : Ng 1 = 1 := by decide
 obtain ⟨Tl, cl, el⟩ := hS.lo
 obtain ⟨Th, ch, eh⟩ := hS.hi
 have bl := bd Tl cl
 have bh := bd Th ch
 have e : gsM a 2 = ZM (ZM ⟨-100000000, 100000000⟩ (λ _ => -1) (gsP a (-1)) (Yj a (-1)).length) (λ _ => 1) (gsP a 1) (Yj a 1).length := by
  simp only [gsM, g0, g1]
 obtain ⟨u1, u2, u3⟩ := wB (⟨-100000000, 100000000⟩ : Span) (rise := λ _ => -1) (rest := gsP a (-1)) (K := (Yj a (-1)).length) λ k _ hk => absurd hk (by decide)
 obtain ⟨v1, v2, v3⟩ := zD (⟨-100000000, 100000000⟩ : Span) (rise := λ _ => -1) (rest := gsP a (-1)) (K := (Yj a (-1)).length)
 rw [e]
 generalize ZM ⟨-100000000, 100000000⟩ (λ _ => -1) (gsP a (-1)) (Yj a (-1)).length = L at *
 obtain ⟨w1, w2, w3⟩ := zD L (rise := λ _ => 1) (rest := gsP a 1) (K := (Yj a 1).length)
 have bk : ∀ k, k < (Yj a 1).length -> -1000000000000 <= gsP a 1 k /\ gsP a 1 k <= 1000000000000 := λ k hk => by
  obtain ⟨l1, l2, l3⟩ := (BGW hg (by omega) _).1 (Fi hk)
  have := BMB (a := ⟨a.N, gD (Yj a 1) k, Mw a.N.g.length a.st a.st.length, 1, -1⟩) hg (λ j hj => by
   have hj : j < a.N.g.length := hj
   have := l2 j hj
   rw [T5 hj] at this
   show -3 <= gD (gD (Yj a 1) k) j /\ gD (gD (Yj a 1) k) j <= 3
   split at this <;> omega) (by simp only; omega) (by simp only; omega)
  have e0 : gsP a 1 k = Pr ⟨a.N, gD (Yj a 1) k, Mw a.N.g.length a.st a.st.length, 1, -1⟩ a.N.g.length := rfl
  rw [e0]
  have : Pr ⟨a.N, gD (Yj a 1) k, Mw a.N.g.length a.st a.st.length, 1, -1⟩ a.N.g.length = Pr (PvA.mk a.N (gD (Yj a 1) k) (Mw a.N.g.length a.st a.st.length) 1 (-1)) (PvA.mk a.N (gD (Yj a 1) k) (Mw a.N.g.length a.st a.st.length) 1 (-1)).N.g.length := rfl
  omega
 obtain ⟨x1, x2, x3⟩ := wB L (rise := λ _ => 1) (rest := gsP a 1) (K := (Yj a 1).length) λ k hk _ => bk k hk
 have hLhi : L.hi = 100000000 := by
  rcases u3 with u3 | ⟨k, _, hk, _⟩
  ·exact u3
  ·exact absurd hk (by decide)
 have hlo : (ZM L (λ _ => 1) (gsP a 1) (Yj a 1).length).lo = (To a).lo := by
  have e2 : (ZM L (λ _ => 1) (gsP a 1) (Yj a 1).length).lo = L.lo := by
   rcases w3 with w3 | ⟨k, _, hk, _⟩
   ·exact w3
   ·exact absurd hk (by decide)
  rw [e2]
  refine Int.le_antisymm ?_ ?_
  ·rw [<- el]
   rcases v3 with v3 | ⟨k, hk, _, hv⟩
   ·rw [v3]; simp only; omega
   ·have := BMS h hs (q := -1) (by omega) hk cl
    omega
  ·obtain ⟨k, hk, hv⟩ := BDX h hc hb c1 (by have : (To a).lo = (To ⟨a.N, a.st⟩).lo := rfl; omega)
   simp only [Bool.false_eq_true, if_false] at hk hv
   have := v2 k hk rfl
   have : (To a).lo = (To ⟨a.N, a.st⟩).lo := rfl
   omega
 have hhi : (ZM L (λ _ => 1) (gsP a 1) (Yj a 1).length).hi = (To a).hi := by
  refine Int.le_antisymm ?_ ?_
  ·obtain ⟨k, hk, hv⟩ := BDX h hc hb c2 (by have : (To a).hi = (To ⟨a.N, a.st⟩).hi := rfl; omega)
   simp only [if_true] at hk hv
   have := x2 k hk rfl
   have : (To a).hi = (To ⟨a.N, a.st⟩).hi := rfl
   omega
  ·rw [<- eh]
   rcases x3 with x3 | ⟨k, hk, _, hv⟩
   ·omega
   ·have := BMS h hs (q := 1) (by omega) hk ch
    omega
 cases hx : ZM L (λ _ => 1) (gsP a 1) (Yj a 1).length with | mk p q =>
 cases hy : To a with | mk r s =>
 rw [hx, hy] at hlo hhi
 simp only at hlo hhi
 rw [hlo, hhi]
theorem BPL (a : NGr) : grR a = Mt a /\ grV a = grpT a := by
 have hR : grR a = Mt a := by
  rw [AZP]
  unfold grR
  by_cases h : AB a.N = 0
  ·rw [if_pos h, if_pos h]
   by_cases hb : grpBad a.N.g.length (-1) a.st = true ∨ a.st.length = 0
   ·rw [if_pos hb, if_pos hb]
   ·rw [if_neg hb, if_neg hb, vU]
    unfold WM; rw [if_pos h]
  ·rw [if_neg h, if_neg h]
 refine ⟨hR, ?_⟩
 unfold grV grpT
 rw [hR]
 by_cases h : Mt a = 0
 ·rw [if_pos h, if_pos h]
  obtain ⟨h1, h2, _, h4⟩ := AKM.1 h
  exact BPQ h1 h4 h2
 ·rw [if_neg h, if_neg h]
end Go.Bal

namespace Go.Bal
open Go Go.Sym Go.Proofs
structure NRG where
 N : NetL
 r : Int
 f : Int
 st : List Int
def xs7 (a : NRG) : List AVal := [.d (LW a.N), .int a.r, .int a.f, .d (BC a.st)]
def A7 := ann 147 [(13, C13.spec dN), (14, s14), (15, C15.spec fT), (16, C16.spec d16), (17, C17.spec d17), (34, C34t.spec dN), (36, C36.spec dN), (37, C37.spec d37), (38, C38t.spec d38), (39, C39.spec d38), (40, C48.spec d48), (35, C35t.spec dGr), (41, C41.spec dGr), (27, C27.spec d27), (28, C28.spec d28)]
def V7 (a : NRG) : Prop := BN Try.prog A7 Try.f7 (AF Try.f7) (xs7 a) (AD []) (.bool true) [] [] []
abbrev JD:=NRG.N
abbrev Zv:=NRG.st
abbrev GW a:=HQ (Zv a)
abbrev AAK a:=HQ (GW a)
abbrev BHD a b:=BGQ a a b
abbrev BHP a b:=BBF a (λ i=>lE b i)
abbrev jO a:=BHP (JD a) (JD a)
abbrev QT a:=BHD (JD a) (jO a)
abbrev Y0 a b:=NGr.mk (QT a) b
abbrev Hu a:=grV (Y0 a (GW a))
abbrev Ho a:=grpT (Y0 a (AAK a))
abbrev uS a:=grR (Y0 a (GW a))
abbrev rJ a:=Mt (Y0 a (AAK a))
abbrev Xp a:=BAW (JD a)
abbrev Of a:=AG (λ i=>HW i a)
abbrev Xt a b c d e f:=Mm a b (Q0 c d) (Hc c e) (He c f)
abbrev Nz a b c d e f:=Xt a (jO b) (JD c) d e f
abbrev Nh a b:=oC (jO a) (JD b)
abbrev Mq a b c:=AMM a (Xp b) (JD c)
abbrev Mz a b:=Pw (Xp a) (JD b)
abbrev rO a:=NRF.mk (QT a) (NRG.r a) (NRG.f a)
abbrev Qc a:=Zo (G6 (rO a))
abbrev gG a:=Zq (G6 (rO a))
abbrev sL a:=D0 (QT a)
abbrev uJ a:=fitG (QT a)
abbrev nS a:=Qp (QT a)
abbrev jL a:=S0 (QT a)
attribute [go_sem] JD Zv GW AAK BHD BHP jO QT Y0 Hu Ho uS rJ Xp Of Xt Nz Nh Mq Mz rO Qc gG sL uJ nS jL
theorem vc7 (a : NRG) : (V7 a) = (EG (Ko (OB (JD a)) (JD a) (DE (JD a)) (Of (JD a))) (Jm (bigM (IF (JD a))) (PS (Zv a)) 10) VS (And (FN (OB (JD a)) (λ i=>OD i (JD a)) (DE (JD a)) (Of (JD a)) (RV (JD a)) (VM (JD a)) (FH (GW a) (Zv a)) (KH (GW a) (Zv a)) (Ke (EA (GW a)))) (BG (SC (JD a) (RV (JD a)) (Ke (HA (JD a)))) (DW (Mz a a) (λ i=>Mq i a a) (Nh a a) (AG (λ i=>Nz i a a i i i))) (Ck (Mz a a) (λ i=>Mq i a a) (Nh a a) (λ i=>Nz i a a i i i) (Cd (Xp a)) (AEU (jO a))) (And (VB (not (SO (Ov (QT a)) (Hd (QT a)))) (Ck (RH (RJ (jL a)) (LC (jL a))) (λ i=>TT i (RJ (jL a)) (jL a) i) (RH (RJ (nS a)) (LC (nS a))) (λ i=>TT i (RJ (nS a)) (nS a) i) (YX (LC (RJ (jL a)))) (Oh (LC (RJ (nS a)))))) (VB (not (Wn (Ov (QT a)) (Hd (QT a)) (yB (RJ (jL a)) (RJ (nS a))))) (Ck (RH (RJ (uJ a)) (LC (uJ a))) (λ i=>TT i (RJ (uJ a)) (uJ a) i) (RH (RJ (sL a)) (LC (sL a))) (λ i=>TT i (RJ (sL a)) (sL a) i) (YX (LC (RJ (uJ a)))) (Oh (LC (RJ (sL a))))))) (Od (SD (Wn (Ov (QT a)) (Hd (QT a)) (yB (RJ (jL a)) (RJ (nS a)))) (yB (RJ (uJ a)) (RJ (sL a)))) (AJ (Ck (Mz a a) (λ i=>Mq i a a) (Nh a a) (λ i=>Nz i a a i i i) (AR (NRG.r a)) (AR (NRG.f a))) (DW (Mz a a) (λ i=>Mq i a a) (Nh a a) (mB (AG (λ i=>Nz i a a i i i)) (AR (NRG.r a)) (AR (NRG.f a)) (Cd (Xp a)) (PM (jO a)) 1000000)) (Od (Cj (SO (FC (rO a)) (J5 (rO a))) (UD (FC (rO a))) (RU (Io (EA (Qc a)) (PS (gG a))))) (IK (KS (FC (rO a))) (AJ (MH (Mz a a) (λ i=>Mq i a a) (FN (Nh a a) (λ i=>Nz i a a i i i) (DB (Qc a)) (DN (Qc a)) (DB (gG a)) (DN (gG a)) (Yg (Xp a) (jO a)) (Ry (Qc a)) (Ry (gG a)))) (VB (not (SD (UD (II (QT a) (mO (Qc a) (gG a)))) (zV (QT a) (mO (Qc a) (gG a))))) (Nt (NRG.r a) (Qc a))) (Od (WS (SD (UD (II (QT a) (mO (Qc a) (gG a)))) (zV (QT a) (mO (Qc a) (gG a)))) (SO (Lh (Qc a) (NRG.r a)) (NRG.f a))) (AP (MH (Mz a a) (λ i=>Mq i a a) (EF (Nh a a) (λ i=>Nz i a a i i i) (DB (GW a)) (DN (GW a)) (Ke (QX (GW a))))) (DW (Mz a a) (λ i=>Mq i a a) (Nh a a) (EO (λ i=>Nz i a a i i i) (FH (GW a) (Zv a)) (λ i=>FW i (GW a) (Zv a)) (Yg (Xp a) (jO a)) (Ke (EA (GW a))))) (And (Rf (KT (Bz (rJ a) (uS a)) (eJ (Ho a) (Hu a) (cV (Ho a) (Hu a)))) (Mz a a) (λ i=>Mq i a a) (XI (Nh a a) (λ i=>Nz i a a i i i) (OB (JD a)) (λ i=>OD i (JD a)) (DE (JD a)) (Of (JD a)) (Yg (Xp a) (jO a)) (RV (JD a)) (VM (JD a)))) (Vp (Og (rJ a) (uS a) (eJ (Ho a) (Hu a) (cV (Ho a) (Hu a))) (QT a) (IF (JD a))) (GW a) (FR (DN (GW a)) (FH (GW a) (Zv a)) (λ i=>FW i (GW a) (Zv a)) (Tc (GW a)) (Jz (GW a))))) (Gq Hi (Mo (Og (rJ a) (uS a) (eJ (Ho a) (Hu a) (cV (Ho a) (Hu a))) (QT a) (IF (JD a))) (AEA (AAK a) (GW a)) Hi))))) (AP (MH (Mz a a) (λ i=>Mq i a a) (EF (Nh a a) (λ i=>Nz i a a i i i) (DB (GW a)) (DN (GW a)) (Ke (QX (GW a))))) (DW (Mz a a) (λ i=>Mq i a a) (Nh a a) (EO (λ i=>Nz i a a i i i) (FH (GW a) (Zv a)) (λ i=>FW i (GW a) (Zv a)) (Yg (Xp a) (jO a)) (Ke (EA (GW a))))) (And (Rf (KT (Bz (rJ a) (uS a)) (eJ (Ho a) (Hu a) (cV (Ho a) (Hu a)))) (Mz a a) (λ i=>Mq i a a) (XI (Nh a a) (λ i=>Nz i a a i i i) (OB (JD a)) (λ i=>OD i (JD a)) (DE (JD a)) (Of (JD a)) (Yg (Xp a) (jO a)) (RV (JD a)) (VM (JD a)))) (Vp (Og (rJ a) (uS a) (eJ (Ho a) (Hu a) (cV (Ho a) (Hu a))) (QT a) (IF (JD a))) (GW a) (FR (DN (GW a)) (FH (GW a) (Zv a)) (λ i=>FW i (GW a) (Zv a)) (Tc (GW a)) (Jz (GW a))))) (Gq Hi (Mo (Og (rJ a) (uS a) (eJ (Ho a) (Hu a) (cV (Ho a) (Hu a))) (QT a) (IF (JD a))) (AEA (AAK a) (GW a)) Hi)))))))))) := by kernel_rfl
theorem BOO {a : NRF} (h : FC a = 0) : Can a.N (G6 a) /\ gD (G6 a).f a.r.toNat = a.f /\ 0 <= a.r /\ a.r < a.N.r.length := by
 obtain ⟨c1, c2, c3, c4, c5⟩ := G8 h
 obtain ⟨N, r, f⟩ := a
 simp only at c1 c2 c3 c4 c5 ⊢
 have c2 := CV.1 c2
 have hn := TJ c1
 have := (tE c1 (by omega) (r := r.toNat) (by omega) (f := f) (CV.1 c4)).2.2
 rw [show ((r.toNat : Nat) : Int) = r by omega] at this
 have et : G6 ⟨N, r, f⟩ = AW (NRF.mk N r f).res.1 := if_pos h
 rw [et]
 obtain ⟨p, q⟩ := this c5
 exact ⟨p, q, by omega, by omega⟩
theorem BFG (N : NetL) : (S0 N).length <= N.r.length /\ (fitG N).length <= N.g.length := by
 unfold S0 fitG
 by_cases h : WM N = 0
 ·rw [if_pos h, if_pos h]
  obtain ⟨a, b⟩ := AXP (Yy.1 h).1
  omega
 ·rw [if_neg h, if_neg h]; simp
theorem BKR {N : NetL} {n : Nat} (h : (bif bigM N then true else decide ((n : Int) > 10)) = false) : N.g.length <= 10 /\ N.r.length <= 17 /\ n <= 10 := by
 unfold bigM at h
 by_cases a : N.g.length > 10
 ·simp [a] at h
 ·by_cases b : N.r.length > 17
  ·simp [b] at h
  ·by_cases c : (n : Int) > 10
   ·simp [c] at h
   ·omega
theorem p7 (a : NRG) : V7 a := by
 obtain ⟨N, r, f, st⟩ := a
 have et : NetL.mk N.g N.r = N := rfl
 have ets : ∀ T : TruthL, TruthL.mk T.f T.t = T := λ _ => rfl
 obtain ⟨x1, x2⟩ := BIT N
 obtain ⟨y1, y2⟩ := BPL ⟨N, st⟩
 obtain ⟨f1, f2⟩ := BFG N
 rw [vc7]<;> simp only [go_sem]; simp only [CC, eq_self, implies_true, forall_const, et, ets, x1, x2, y1, y2, vU, BNE]
 intro hb
 obtain ⟨s1, s2, s3⟩ := BKR hb
 clear hb
 have b1 : N.g.length <= 1000000 := by omega
 have b2 : N.r.length <= 1000000 := by omega
 have b3 : st.length <= 1000000 := by omega
 have b4 : st.length < 4611686018427387904 := by omega
 have b5 : (S0 N).length < 4611686018427387904 := by omega
 have b6 : (fitG N).length < 4611686018427387904 := by omega
 by_cases hr : FC ⟨N, r, f⟩ = 0
 ·obtain ⟨hT, hf, r0, r1⟩ := BOO hr
  simp only at hT hf r0 r1
  obtain ⟨v1, v2, v3, v4, v5⟩ := BEG hT
  obtain ⟨_, u1, u2, _⟩ := Ux hT.ask
  have b7 : (G6 ⟨N, r, f⟩).f.length <= 1000000 := by omega
  have b8 : (G6 ⟨N, r, f⟩).t.length <= 1000000 := by omega
  rw [hr, v1, v3, hf, u1]
  rw [u1] at b7
  simp [b1, b2, b3, b4, b5, b6, b7, b8, r0, r1]
 ·have e2 : G6 ⟨N, r, f⟩ = zT := if_neg hr
  have z1 : zT.f.length = 0 := rfl
  have z2 : zT.t.length = 0 := rfl
  have wz : IntKind.i64.wrap (((0 : Nat) : Int) + ((0 : Nat) : Int)) = 0 := by decide
  rw [e2, z1, z2, wz]
  simp [b1, b2, b3, b4, b5, b6, hr]
theorem c7 (a : NRG) : FnT Try.prog 7 (xs7 a) (AD []) (.bool true) [] :=
 Pb (A := A7) (ren := []) (fz := []) Try.func7 (by kernel_rfl) (AA ok13 (AA ok14 (AA ok15 (AA ok16 (AA ok17 (AA BRH (AA ok36 (AA ok37 (AA BPF (AA ok39 (AA ok40 (AA BRJ (AA ok41 (AA ok27 (AA ok28 AE))))))))))))))) (p7 a)
end Go.Bal
