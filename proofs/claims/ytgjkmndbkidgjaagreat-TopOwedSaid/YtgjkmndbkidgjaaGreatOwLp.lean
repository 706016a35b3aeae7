/- Law TopOwed: the proof of its walk. -/
import Derived.Test.YtgjkmndbkidgjaaGreatOwLx
set_option linter.unusedVariables false
set_option linter.unusedSimpArgs false
namespace Go.Bal
open Go Go.Sym Go.Proofs
def okBy (l : List Int) : Prop := ∀ i, i < l.length -> 0 <= gD l i /\ gD l i <= 255
theorem ACY {bs : List Int} (h : okBy bs) : StmB 0 ⟨bs, 0, 0⟩ := ⟨⟨Int.le_refl _, Int.le_refl _⟩, ⟨Int.le_refl _, by show (0 : Int) < 251; omega⟩, h⟩
theorem AZG (b : Bd) : Bd.mk b.t b.c = b := rfl
theorem AZB (s : Span) : Span.mk s.lo s.hi = s := rfl
theorem rng1 (c : Int) : AJ 1 (λ _ => c) = [c] := rfl
theorem wi_f (f : Nat) (x : OwI) : FA.mk f (HM (ED x)) [(HZ x : Int)] = An f (ED x) (HZ x) := rfl
theorem BAT {n : Nat} {z : Int} (h : n = z.toNat) (h1 : 1 <= z) (h2 : z <= 10) : 1 <= n /\ n <= 10 := by omega
theorem BHD {l h : Int} (h1 : -40 <= l /\ l <= 40) (h2 : l <= h /\ h <= 60) : -1000000000 <= l /\ l <= h /\ h <= 1000000000 := by omega
theorem BIF {S : Span} {l h : Int} (e : S = ⟨l, h⟩) (h1 : -40 <= l /\ l <= 40) (h2 : l <= h /\ h <= 60) : -1000000000 <= S.lo /\ S.lo <= S.hi /\ S.hi <= 1000000000 := by subst e; exact BHD h1 h2
theorem modk {w N k : Nat} (h : k = w % N) (h1 : 1 <= N) : k < N := by rw [h]; exact Nat.mod_lt _ h1
structure OwF (w : Int) (ys nw : List Yr) (N k : Nat) (B : Bd) (S : Span) (q : Stm) : Prop where
 len : ys.length = N
 n : 1 <= N /\ N <= 10
 kk : k = w.toNat % N
 b : BdOk B
 s : -1000000000 <= S.lo /\ S.lo <= S.hi /\ S.hi <= 1000000000
 y : yOk ys
 qq : StmB 0 q
 nw : nw = AJ N λ i => bif decide (i = k) then (⟨(gD ys k).i, ⟨wr ((gD ys k).d.lo + BP q 9), wr (wr ((gD ys k).d.lo + BP q 9) + BP (BO q 9) 20)⟩, (gD ys k).sp⟩ : Yr) else gD ys i
theorem owF {x : OwI} (h1 : okBy x.bs) (h2 : okBy x.cs) : OwF x.w (DI x) (QG x) (ED x) (HZ x) (EN x) (CZ x) (IU x) := by
 have hs : StmB 0 (owA x).s := ACY h1
 have hB : BordF (owA x) := BIS hs (show (1 : Int) <= 10 by decide) (show (10 : Int) <= 40 by decide)
 have hn0 : (mY (owA x)).l.length = (nY (owA x)).toNat := hB.y.hn
 have hm : nY (owA x) <= 10 := hB.n.2
 have hN : 1 <= ED x /\ ED x <= 10 := by unfold ED DI; exact BAT hn0 hB.n.1 hm
 have hb : BdOk (EN x) := by unfold EN; exact BDF hs hB
 have hsp : -1000000000 <= (CZ x).lo /\ (CZ x).lo <= (CZ x).hi /\ (CZ x).hi <= 1000000000 := BIF (l := Yf (owA x).s) (h := gI (owA x).s) (by unfold CZ; exact Eq.refl _) hB.lo hB.hi
 have hy : yOk (DI x) := by unfold DI; exact hB.y.hy
 have hq : StmB 0 (IU x) := ACY h2
 exact ⟨by unfold ED; exact Eq.refl _, hN, by unfold HZ; exact Eq.refl _, hb, hsp, hy, hq, by unfold QG newY AYL AOO; exact Eq.refl _⟩
theorem AZH {w : Int} (h : 0 <= w) (n : Nat) : w.tmod ((n : Nat) : Int) = ((w.toNat % n : Nat) : Int) := by
 obtain ⟨m, rfl⟩ := Int.eq_ofNat_of_zero_le h
 rw [Int.tmod_eq_emod_of_nonneg h]; rfl
theorem AQU {L i : Nat} (h : i < L) : (Ez L i).of = [] := by unfold Ez; rw [decide_eq_true h]; rfl
theorem AYK (L : Nat) : (Ez L L).of = [0] := by unfold Ez; rw [decide_eq_false (Nat.lt_irrefl L), decide_eq_true rfl]; rfl
theorem AKV {L a : Nat} (h : 0 < a) : (Ez L (L + a)).of = [(a : Int), ((L + a - 1 : Nat) : Int)] := by
 unfold Ez; rw [decide_eq_false (show ¬ L + a < L by omega), decide_eq_false (show ¬ L + a = L by omega)]
 show [((L + a - L : Nat) : Int), _] = _
 rw [show L + a - L = a by omega]
theorem BBS {L j : Nat} (h : j < 2 * L) : gD (HM L) j = Ez L j := FE _ _ _ h
theorem BAK {i : Nat} (h : i < 2) : i = 0 ∨ i = 1 := by omega
theorem bigF {M kk spk spa : Bool} {A C : Span} {r r' : Int} (hM : M = kk) (h1 : kk = false -> A = C) (h2 : kk = true -> (spk = true ∨ spa = true) -> A = C) (h3 : kk = true -> r = r') :
  (bif (bif !(M == kk) then true else bif (bif !M then true else bif spk then true else bif kk then spa else false) then !(A.lo == C.lo && (A.hi == C.hi && true)) else false) then true else bif M then r != r' else false) = false := by
 subst hM
 cases M
 ·have := h1 rfl; subst this; simp
 ·have e := h3 rfl; subst e
  cases spk
  ·cases spa
   ·simp
   ·have := h2 rfl (Or.inr rfl); subst this; simp
  ·have := h2 rfl (Or.inl rfl); subst this; simp
theorem BBU {K : Int} {s : Stm} (h : StmB K s) (hK : K <= 1000) {y : Yr} (hy : YQ y = true) (hl : y.d.lo <= 200) : YQ ⟨y.i, ⟨wr (y.d.lo + BP s 9), wr (wr (y.d.lo + BP s 9) + BP (BO s 9) 20)⟩, y.sp⟩ = true := by
 have v1 := EJ h (by omega) 9
 have v2 := EJ (h.next (by omega) 9) (by omega) 20
 have u1 := v1.2 (by omega)
 have u2 := v2.2 (by omega)
 obtain ⟨v1, _⟩ := v1
 obtain ⟨v2, _⟩ := v2
 generalize BP s 9 = n1 at v1 u1 ⊢
 generalize BP (BO s 9) 20 = n2 at v2 u2 ⊢
 simp only [YQ, JF, FW, HO, Bool.and_eq_true, decide_eq_true_eq] at hy ⊢
 have e1 : wr (y.d.lo + n1) = y.d.lo + n1 := JA (by omega) (by omega)
 have e2 : wr (y.d.lo + n1 + n2) = y.d.lo + n1 + n2 := JA (by omega) (by omega)
 rw [e1, e2]
 omega
section
variable {w : Int} {ys nw : List Yr} {N k : Nat} {B : Bd} {S : Span} {q : Stm} (F : OwF w ys nw N k B S q)
include F
theorem OwF.kN : k < N := modk F.kk F.n.1
theorem OwF.nw_len : nw.length = N := by rw [F.nw]; exact rng_length _ _
theorem OwF.nw_k : gD nw k = ⟨(gD ys k).i, ⟨wr ((gD ys k).d.lo + BP q 9), wr (wr ((gD ys k).d.lo + BP q 9) + BP (BO q 9) 20)⟩, (gD ys k).sp⟩ := by
 rw [F.nw, FE _ _ _ F.kN, decide_eq_true rfl]; rfl
theorem OwF.nw_ne {i : Nat} (h : i ≠ k) : gD nw i = gD ys i := by
 by_cases hi : i < N
 ·rw [F.nw, FE _ _ _ hi, decide_eq_false h]; rfl
 ·have h1 := F.nw_len
  have h2 := F.len
  unfold gD
  rw [List.getD_eq_getElem?_getD, List.getD_eq_getElem?_getD, List.getElem?_eq_none (by omega), List.getElem?_eq_none (by omega)]
theorem OwF.ask_ys : AskOk ⟨B, S, ys⟩ := ⟨F.b, F.s, by show ys.length <= 40; have := F.n; have := F.len; omega, λ i hi => (F.y i hi).1⟩
theorem OwF.ask_nw : AskOk ⟨B, S, nw⟩ := ⟨F.b, F.s, by show nw.length <= 40; rw [F.nw_len]; have := F.n; omega, λ i hi => by
 have hi : i < N := by have q : i < nw.length := hi; rw [F.nw_len] at q; exact q
 have hl := F.len
 have hk := F.kN
 show YQ (gD nw i) = true
 by_cases e : i = k
 ·rw [e, F.nw_k]
  have := F.y k (by omega)
  exact BBU F.qq (by decide) this.1 this.2
 ·rw [F.nw_ne e]; exact (F.y i (by omega)).1⟩
theorem OwF.db_eq {j : Nat} (hj : j < N) (h : j + 1 <= k ∨ X5 ys k (j + 1) = true) : gD (JN ⟨B, S, ys⟩) j = gD (JN ⟨B, S, nw⟩) j :=
 AUK (by rw [F.nw_len, F.len]) (by rw [F.len]; exact hj) (λ i hi => F.nw_ne hi) (by rw [F.nw_k]) h
end
theorem chkF {a b c d e N k : Nat} (ha : a = N) (hb : b = N) (hc : c = d) (he : e = 1 + N - k) (hN : N <= 10) (hk : k < N) : (bif bif bif bif bif bif bif (0 : Int) != 0 then true else (0 : Int) != 0 then true else (0 : Int) != 0 then true else (0 : Int) != 0 then true else (a : Int) != N then true else (b : Int) != N then true else (c : Int) != d then true else (e : Int) != IntKind.i64.wrap (IntKind.i64.wrap (1 + (N : Int)) - k)) = false := by
 subst ha; subst hb; subst hc; subst he
 have e1 : IntKind.i64.wrap (1 + (b : Int)) = 1 + (b : Int) := JA (by omega) (by omega)
 have e2 : IntKind.i64.wrap (1 + (b : Int) - k) = ((1 + b - k : Nat) : Int) := by rw [JA (by omega) (by omega)]; omega
 rw [e1, e2]; simp
theorem p_Ow (x : OwI) (h1 : okBy x.bs) (h2 : okBy x.cs) (hw : 0 <= x.w /\ x.w <= 255) (hf : x.f = 64) : V_Ow x := by
 have F := owF h1 h2
 have hs0 := ACY h1
 have ew : IntKind.i64.wrap x.w = x.w := JA (by omega) (by omega)
 have ek : x.w.tmod ((ED x : Nat) : Int) = ((HZ x : Nat) : Int) := by rw [F.kk]; exact AZH hw.1 _
 rw [BGO]; delta ACR vJ A8 yW AFX ACK oY ACC L5 AFU zM E9 P5 jK E1 E6 KZ S2 TD E0 D9 zK Ws Xk jQ kU GA GC VQ KU KV MB MC iT mU Ea gU kX lQ zJ gT yJ R7 GM H9 K0 N2 iV N5 lT U4 Up zT C7 Vv O8 mE QA kW mA L0 Ts V4 Cx iO iB zZ B7 Ul Cp HS B9 lH O4 A7 yG Xq hX UY K6 jX V7 T3 O0 lM zV G1 N6 mN G5 Vi mF XL WF IT Tp iF S0 jI jC uD Xr rD uT qL tB pY Vz YX uQ pG sS vE pK pH oZ Tr Tn Xa nK uM qM OQ Ap uV Xc qW nZ rA QZ vD oB sP nS tL QY rQ oV sE pP pO nJ ZQ Wn Vh Uu Vk Va Xz Xs Vp Yb Xo Un Xm Ae pE rF nV oI uA Ve tN; simp only [BF, eq_self, implies_true, and_self, true_and, and_true, true_implies, forall_const, decide_eq_true_eq, decide_eq_false_iff_not, Int.toNat_natCast, dSpan_eSpan, dInt_eInt, AV, BH, BJ, BC, AZ, AX, AY, Nat.zero_add, Int.zero_sub, Nat.le_eq, Nat.succ_eq_add_one, Nat.add_one_le_iff, Bool.not_eq_true', Bool.not_eq_false', rng_length, AT, AP, AHS, AZG, AZB, rng1, F.len, ew, ek, Int.toNat_natCast, decide_true, cond_true, wi_f, hf]
 have e1 : DI x = (mY ⟨⟨x.bs, 0, 0⟩, 10⟩).l := by unfold DI owA; exact Eq.refl _
 have e2 : EN x = uI ⟨⟨x.bs, 0, 0⟩, 10⟩ := by unfold EN owA; exact Eq.refl _
 have e3 : CZ x = ⟨Yf ⟨x.bs, 0, 0⟩, gI ⟨x.bs, 0, 0⟩⟩ := by unfold CZ owA; exact Eq.refl _
 have e4 : IU x = ⟨x.cs, 0, 0⟩ := rfl
 have e5 : YP x = JN ⟨EN x, CZ x, DI x⟩ := by unfold YP; exact Eq.refl _
 have e6 : YM x = JN ⟨EN x, CZ x, QG x⟩ := by unfold YM; exact Eq.refl _
 have e7 : LU x = Kn ⟨HM (ED x), [(HZ x : Int)]⟩ := by unfold LU owW; exact Eq.refl _
 have e8 : QC x = gG (HM (ED x)) (MP (HM (ED x)) [(HZ x : Int)] (HM (ED x)).length) := by unfold QC; exact Eq.refl _
 rw [e5, e6, e7, e8]
 clear e5 e6 e7 e8
 generalize mY ⟨⟨x.bs, 0, 0⟩, 10⟩ = my at e1 ⊢
 generalize uI ⟨⟨x.bs, 0, 0⟩, 10⟩ = mb at e2 ⊢
 generalize Yf ⟨x.bs, 0, 0⟩ = ml at e3 ⊢
 generalize gI ⟨x.bs, 0, 0⟩ = mh at e3 ⊢
 generalize DI x = ys at F e1 ⊢
 generalize QG x = nw at F ⊢
 generalize ED x = N at F ek ⊢
 generalize HZ x = k at F ek ⊢
 generalize EN x = B at F e2 ⊢
 generalize CZ x = SP at F e3 ⊢
 have hn := F.n
 have hk := F.kN
 have er : AJ N (λ i => gD ys i) = ys := by rw [<- F.len]; exact AP ys
 rw [er]
 have RV := AXB hn.1 hn.2 hk
 have S := BBY hn.1 hn.2 hk
 have Z := BCM hn.1 hn.2 hk
 have FR := BJX hn.1 hn.2 hk
 have RD := λ j hj hkj => AZW (j := j) hn.1 hn.2 hk hj hkj
 have hlast : IntKind.i64.wrap ((N : Int) - 1) = ((N - 1 : Nat) : Int) := by rw [JA (by omega) (by omega)]; omega
 have q1 := F.qq.next (by decide) 9
 have rl : (gG (HM N) (MP (HM N) [(k : Int)] (HM N).length)).length = (HM N).length := rng_length _ _
 have wl := L6 N
 generalize gG (HM N) (MP (HM N) [(k : Int)] (HM N).length) = rdy at RD rl ⊢
 generalize Kn ⟨HM N, [(k : Int)]⟩ = sta at S ⊢
 generalize An 64 N k = fa at Z FR ⊢
 rw [hlast]
 refine ⟨⟨rfl, hs0, by decide, by decide⟩, ⟨⟨default, ?_⟩, ⟨λ _ => ⟨⟨by decide, by decide, by decide, by decide, by decide⟩, 1, ⟨rfl, rfl, rfl⟩, ⟨by decide, hn.1⟩, by omega⟩, λ h => absurd hn.1 (by omega)⟩, λ a ha => ⟨λ hlt => ?_, λ hge => ?_⟩⟩, ⟨⟨0, ⟨rfl, rfl, rfl⟩, Nat.zero_le _⟩, λ a ha => ⟨λ hlt => ⟨⟨λ h0 => ?_, λ h0 => ?_⟩, λ c hc => ?_⟩, λ hge => ?_⟩⟩, λ h => absurd hn.1 (by omega), ⟨λ _ _ => ⟨rfl, rfl, rfl, rfl, rfl⟩, hn.1, by omega⟩, ⟨⟨by omega, by omega⟩, hk, rfl, F.qq.used.1, ⟨by omega, by omega⟩, hk⟩, ⟨⟨⟨by omega, by omega⟩, hk, rfl, q1.used.1, ⟨by omega, by omega⟩, hk⟩, default, F.nw_len, Nat.le_refl _, λ j hj => ?_⟩, ⟨λ _ _ => ⟨rfl, rfl, rfl, rfl, rfl⟩, F.ask_ys, hn.1⟩, ⟨F.ask_nw, by rw [F.nw_len]; exact hn.1⟩, ⟨rfl, by decide, λ j hj => ?_, RV⟩, ⟨⟨rfl, by decide, λ j hj => ?_, RV⟩, default, rfl, λ _ _ => ⟨rfl, rfl⟩, rfl, λ _ _ => ⟨rfl, rfl⟩, rfl, λ _ _ => rfl, rfl, λ _ _ => rfl⟩, ⟨λ h => ?_, λ _ => ⟨default, trivial⟩⟩, ⟨⟨0, ⟨rfl, rfl⟩, Nat.zero_le _⟩, λ a ha => ⟨λ hlt => ?_, λ _ => ⟨default, trivial⟩⟩⟩, ⟨rfl, by decide, λ j hj => ?_, rfl, FR⟩, λ h => ?_, λ h => ?_⟩
 ·subst e1 e2 e3
  exact ⟨F.len.symm, λ _ _ => ⟨rfl, rfl, rfl, rfl, rfl⟩, by rw [F.len], rfl, λ _ _ => ⟨rfl, rfl⟩, rfl, rfl, rfl, rfl, λ _ _ => rfl, rfl, rfl⟩
 ·refine ⟨⟨by decide, λ h => (by cases h), by omega, by omega⟩, a + 1, ⟨rfl, (CE (by omega)).symm, rfl, λ i _ => ?_⟩, ⟨by omega, by omega⟩, by omega⟩
  cases decide (i < a) <;> exact ⟨rfl, λ i1 h => absurd h (Nat.not_lt_zero _), rfl, rfl⟩
 ·have e : N = a := by omega
  exact ⟨default, e, e, λ i hi => ⟨by rw [AQU hi]; rfl, by rw [AQU hi]; rfl, rfl, rfl⟩⟩
 ·have ha0 : 0 < a := by omega
  refine ⟨⟨by decide, λ h => (by cases h), by decide, by decide⟩, a, ⟨rfl, rfl, rfl, by rw [AKV ha0]; rfl, λ i hi => ?_⟩, by omega, rfl⟩
  rw [AKV ha0] at hi ⊢
  have e1 : IntKind.i64.wrap ((N : Int) + a) = (N : Int) + a := JA (by omega) (by omega)
  have e2 : IntKind.i64.wrap ((N : Int) + a - 1) = ((N + a - 1 : Nat) : Int) := by rw [JA (by omega) (by omega)]; omega
  rw [e1, e2]
  obtain rfl | rfl := BAK hi
  ·rfl
  ·rfl
 ·obtain rfl : a = 0 := by omega
  refine ⟨0, ⟨rfl, rfl, rfl, by rw [Nat.add_zero, AYK]; rfl, λ i hi => ?_⟩, by omega, rfl⟩
  rw [Nat.add_zero, AYK] at hi ⊢
  obtain rfl : i = 0 := by have q : i < 1 := hi; omega
  rfl
 ·refine ⟨⟨by decide, λ h => (by cases h), by omega, by omega⟩, c + 1, ⟨by omega, (CE (by omega)).symm, by omega, λ i hi => ?_⟩, by omega, by omega⟩
  by_cases h : i < N + c
  ·rw [decide_eq_true h]; exact ⟨rfl, λ _ _ => rfl, rfl, rfl⟩
  ·obtain rfl : i = N + c := by omega
   rw [decide_eq_false h]; exact ⟨rfl, λ _ _ => rfl, rfl, rfl⟩
 ·refine ⟨default, by omega, Nat.le_refl _, λ j hj => ?_⟩
  rw [BBS (by omega)]; exact ⟨rfl, λ _ _ => rfl, rfl, rfl⟩
 ·by_cases e : j = k
  ·rw [e, F.nw_k, decide_eq_true rfl]; exact ⟨rfl, rfl, rfl, rfl, rfl⟩
  ·rw [F.nw_ne e, decide_eq_false e]; exact ⟨rfl, rfl, rfl, rfl, rfl⟩
 ·obtain rfl : j = 0 := by have q : j < 1 := hj; omega
  rfl
 ·obtain rfl : j = 0 := by have q : j < 1 := hj; omega
  rfl
 ·have hc := chkF (N := N) (k := k) (show (JN ⟨B, SP, ys⟩).length = N by rw [Vy]; exact F.len) (show (JN ⟨B, SP, nw⟩).length = N by rw [Vy]; exact F.nw_len) rl S.1 hn.2 hk
  rw [hc] at h; cases h
 ·have hN : a < N := by omega
  have ea : IntKind.i64.wrap ((N : Int) + a) = ((N + a : Nat) : Int) := by rw [JA (by omega) (by omega)]; omega
  have em : CK sta ((N + a : Nat) : Int) = decide (k <= a) := S.2 a hN
  have eg : decide ((a : Int) >= (k : Int)) = decide (k <= a) := decide_eq_decide.2 (by omega)
  have eA : (JN ⟨B, SP, ys⟩).length = N := by rw [Vy]; exact F.len
  have eC : (JN ⟨B, SP, nw⟩).length = N := by rw [Vy]; exact F.nw_len
  have e2 : IntKind.i64.wrap (IntKind.i64.wrap (2 + (a : Int)) - k) = 2 + (a : Int) - k := by rw [JA (show _ <= 2 + (a : Int) by omega) (by omega), JA (by omega) (by omega)]
  have hd : ∀ h, gD (JN ⟨B, SP, ys⟩) a = gD (JN ⟨B, SP, nw⟩) a := λ h => F.db_eq hN h
  rw [ea, em, eg, eA, eC, e2, rl, wl, Int.toNat_natCast]
  have hbig := bigF (M := decide (k <= a)) (kk := decide (k <= a)) (spk := X5 ys k a) (spa := (gD ys a).sp) (A := gD (JN ⟨B, SP, ys⟩) a) (C := gD (JN ⟨B, SP, nw⟩) a) (r := gD rdy (N + a)) (r' := 2 + (a : Int) - k) rfl (λ h => hd (Or.inl (by have := of_decide_eq_false h; omega))) (λ h hs => hd (Or.inr (by
   simp only [X5, h, cond_true]
   rcases hs with h | h
   ·rw [h]; rfl
   ·rw [h]; cases X5 ys k a <;> rfl))) (λ h => RD a hN (of_decide_eq_true h))
  rw [hbig]
  have hs2 := S.1
  refine ⟨by omega, λ _ => by omega, ⟨λ _ => by omega, λ _ => by omega, λ _ => by omega⟩, λ h => (by cases h), λ _ => ⟨a + 1, ⟨rfl, (CE (by omega)).symm⟩, hN, by omega⟩⟩
 ·obtain rfl : j = 0 := by have q : j < 1 := hj; omega
  rfl
 ·have h : (k : Int) = ((N - 1 : Nat) : Int) := eq_of_beq h
  rw [Z.1 (by omega)]; rfl
 ·have h : ¬ (k : Int) = ((N - 1 : Nat) : Int) := λ e => by rw [e] at h; simp at h
  obtain ⟨z1, z2⟩ := Z.2 (by omega)
  rw [z1, z2]; rfl
theorem BHN (x : OwI) (h1 : okBy x.bs) (h2 : okBy x.cs) (hw : 0 <= x.w /\ x.w <= 255) (hf : x.f = 64) : FnT Try.prog APF (xOw x) (AK []) (.bool true) [] := JK (A := A_Ow x) (ren := []) (fz := []) AUX (by kernel_rfl) (AH BCD (AH AUQ (AH BAQ (AH V1 (AH ASC (AH AAZ (AH ARC (AH RO (AH (ASX x.f) (AH AQN AM)))))))))) (p_Ow x h1 h2 hw hf)
end Go.Bal
