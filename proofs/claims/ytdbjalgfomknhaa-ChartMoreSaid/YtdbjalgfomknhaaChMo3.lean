/- Law ChartMore: what is asked is so, of charts that are made. -/
import Derived.Test.YtdbjalgfomknhaaChMo2
set_option linter.unusedVariables false
set_option linter.unusedSimpArgs false
namespace Go.Bal
open Go Go.Sym Go.Proofs
theorem CTK {c : Cht} {z : List Int} (h : ChOk c) (hz : okZ ⟨c, z⟩ = true) : z.length <= 40 := by
 have hm := h.m
 obtain ⟨q1, q2⟩ := (U9 (a := ⟨c, z⟩) hm).1 hz
 dsimp only at q1 q2
 have : ∀ (z : List Int) (a b : Int), z.Pairwise (· < ·) -> (∀ g ∈ z, a <= g /\ g < b) -> (z.length : Int) <= b - a ∨ z = [] := by
  intro z
  induction z with
  | nil => intro _ _ _ _; exact .inr rfl
  | cons g r ih =>
   intro a b hp hb
   rw [List.pairwise_cons] at hp
   have h0 := hb g (List.mem_cons_self ..)
   left
   rw [List.length_cons]
   rcases ih (g + 1) b hp.2 (λ x hx => by have := hp.1 x hx; have := hb x (List.mem_cons_of_mem _ hx); omega) with h | h
   ·omega
   ·subst h; show (((0 + 1 : Nat)) : Int) <= _; omega
 rcases this z 0 40 q2 (λ g hg => by have := q1 g hg; omega) with q | q
 ·omega
 ·rw [q]; decide
theorem ADG {a : CZ} (hr : AS a = 0) : NT a = (CK a, 0) := by
 unfold NT; rw [hr]; rfl
theorem DHR {f t s v1 v2 v3 v4 : Int} {m : Nat} (hf : 0 <= f /\ f < m) (ht : 0 <= t /\ t <= 20000) (hs : -10000 <= s /\ s <= 10000) (h1 : 0 <= v1 /\ v1 < 20) (h2 : 0 <= v2 /\ v2 < 20) (h3 : 0 <= v3 /\ v3 < 5) (h4 : 0 <= v4 /\ v4 < 5) :
  NtOk m ⟨f, ⟨BJ 0 (wr (t - v1)), wr (t + v2)⟩, ⟨wr (s - v3), wr (s + v4)⟩⟩ /\ (Span.mk (BJ 0 (wr (t - v1))) (wr (t + v2))).has t /\ (Span.mk (wr (s - v3)) (wr (s + v4))).has s := by
 have e1 : wr (t - v1) = t - v1 := EM (by omega) (by omega)
 have e2 : wr (t + v2) = t + v2 := EM (by omega) (by omega)
 have e3 : wr (s - v3) = s - v3 := EM (by omega) (by omega)
 have e4 : wr (s + v4) = s + v4 := EM (by omega) (by omega)
 rw [e1, e2, e3, e4]
 have m1 := jN 0 (t - v1)
 have m2 : BJ 0 (t - v1) <= t := gH.2 (by omega)
 generalize BJ 0 (t - v1) = A at *
 refine ⟨⟨hf, ?_, ?_⟩, ⟨m2, ?_⟩, ⟨?_, ?_⟩⟩
 ·show 0 <= A /\ A <= t + v2 /\ t + v2 <= 10000000; omega
 ·show -3000000 <= s - v3 /\ s - v3 <= s + v4 /\ s + v4 <= 3000000; omega
 ·show t <= t + v2; omega
 ·show s - v3 <= s; omega
 ·show s <= s + v4; omega
theorem DHH {l h v w : Int} (hl : 1 <= l) (hh : h <= 17) (h0 : 1 <= h) (hl2 : l <= 17) (hv : 0 <= v /\ v < 3) (hw : 0 <= w /\ w < 3) : 1 <= BJ 1 (wr (l - v)) /\ BJ 1 (wr (l - v)) <= l /\ h <= wr (h + w) /\ wr (h + w) <= 600 := by
 have e1 : wr (l - v) = l - v := EM (by omega) (by omega)
 have e2 : wr (h + w) = h + w := EM (by omega) (by omega)
 rw [e1, e2]
 have m1 := jN 1 (l - v)
 have m2 : BJ 1 (l - v) <= l := gH.2 (by omega)
 omega
theorem DGJ {a b v : Int} (h0 : 0 <= a) (h1 : a <= b) (h2 : b <= 20000) : a <= wr (a + MX v (wr (wr (b - a) + 1))) /\ wr (a + MX v (wr (wr (b - a) + 1))) <= b := by
 have e1 : wr (b - a) = b - a := EM (by omega) (by omega)
 have e2 : wr (b - a + 1) = b - a + 1 := EM (by omega) (by omega)
 rw [e1, e2]
 have p := DIJ v (n := b - a + 1) (by omega)
 generalize MX v (b - a + 1) = P at *
 have e3 : wr (a + P) = a + P := EM (by omega) (by omega)
 rw [e3]; omega
structure MoF (x : MoI) : Prop where
 hs : StmB 0 ⟨x.bs, 0, 0⟩
 us : 0 <= (BH x).used /\ 0 <= (Ja x).used /\ 0 <= (Ml x).used /\ 0 <= (Lf x).used /\ 0 <= (CP x).used /\ 0 <= (Kv x).used
 ug : ∀ k, k <= 40 -> 0 <= (BL x k).s.used
 nl : (1 <= (AH x).ms.length /\ (AH x).ms.length <= 12) /\ (AH x).ns.length <= 12 /\ (BI x).z.length <= 40 /\ (BI x).t.length = (AH x).ms.length /\ (BI x).s.length = (AH x).ms.length
 tm : NT (moZ x) = (RO x, 0)
 fe : (CJ (AH x)).e = 0
 fr : CS x = -1 ∨ (0 <= CS x /\ CS x < (AH x).ms.length)
 sg : ∀ k, SgI (BI x).z k (BL x k)
 ql : (QL x).length <= 40
 t1 : NT ⟨AJ x, (BI x).z⟩ = (CK ⟨AJ x, (BI x).z⟩, 0)
 tn : (AJ x).ns.length <= 12
 te : (CJ (AJ x)).e = 0
 tf : (Mw x).length <= (CJ (AJ x)).q.length
 tc : XA ⟨RO x, CK ⟨AJ x, (BI x).z⟩⟩ = true
 w1 : NT ⟨AM x, (BI x).z⟩ = (CK ⟨AM x, (BI x).z⟩, 0)
 wn : (AM x).ns.length <= 12
 we : (CJ (AM x)).e = 0
 wf : (CJ (AM x)).q.length <= (Mw x).length
 wc : XA ⟨CK ⟨AM x, (BI x).z⟩, RO x⟩ = true
 s1 : NT ⟨AH x, QL x⟩ = (CK ⟨AH x, QL x⟩, 0)
 sc : XA ⟨CK ⟨AH x, QL x⟩, RO x⟩ = true
 ln : (CK ⟨AJ x, (BI x).z⟩).length = (AH x).ms.length /\ (CK ⟨AM x, (BI x).z⟩).length = (AH x).ms.length /\ (CK ⟨AH x, QL x⟩).length = (AH x).ms.length /\ (RO x).length = (AH x).ms.length
 st : (AW ⟨moZ x, MP x⟩).2 = 0 /\ (AW ⟨⟨AJ x, (BI x).z⟩, MP x⟩).2 = 0 /\ (AW ⟨⟨AH x, QL x⟩, MP x⟩).2 = 0
 sl : (AW ⟨moZ x, MP x⟩).1.lo <= (AW ⟨⟨AJ x, (BI x).z⟩, MP x⟩).1.lo /\ (AW ⟨⟨AJ x, (BI x).z⟩, MP x⟩).1.hi <= (AW ⟨moZ x, MP x⟩).1.hi /\ (AW ⟨⟨AH x, QL x⟩, MP x⟩).1.lo <= (AW ⟨moZ x, MP x⟩).1.lo /\ (AW ⟨moZ x, MP x⟩).1.hi <= (AW ⟨⟨AH x, QL x⟩, MP x⟩).1.hi
theorem DCB (x : MoI) (hb : ∀ i, i < x.bs.length -> 0 <= gD x.bs i /\ gD x.bs i <= 255) (hc : ∀ i, i < x.cs.length -> 0 <= gD x.cs i /\ gD x.cs i <= 255) : MoF x := by
 have hpre : preM (moM x) := DIO hb (by omega)
 have hM := DQA hpre
 have hok : ChOk (AH x) := hM.ok
 obtain ⟨hrd, hT⟩ := hM.read (z := (BI x).z) hM.z (λ g hg => hg)
 have hrd : AS ⟨AH x, (BI x).z⟩ = 0 := hrd
 have hT : TrC (AH x) (AI ⟨AH x, (BI x).z⟩).sp (gD (BI x).t) := hT
 have hz : okZ ⟨AH x, (BI x).z⟩ = true := hM.z
 have l1 : 1 <= (AH x).ms.length := hM.len.1.1
 have l2 : ((AH x).ms.length : Int) <= 12 := hM.len.1.2
 have l3 : (BI x).t.length = (AH x).ms.length := hM.len.2.1
 have l4 : (BI x).s.length = (AH x).ms.length := hM.len.2.2.1
 have l5 : (AH x).ns.length <= (AH x).ms.length := hM.len.2.2.2
 have tb : ∀ i, i < (AH x).ms.length -> 0 <= gD (BI x).t i /\ gD (BI x).t i <= 20000 := hM.tb
 have sb : ∀ i, i < (AH x).ms.length -> -10000 <= gD (BI x).s i /\ gD (BI x).s i <= 10000 := hM.sb
 have stt : ∀ i, i < (AH x).ms.length -> (HD (AH x) i).has (gD (BI x).s i) := hM.st
 have bd : (1 <= (AH x).p.lo /\ (AH x).p.hi <= 17) := hM.bd.2.2.2
 have s0 : StmB 0 (BH x) := CZY hc
 have hs0 : StmB 0 ⟨x.bs, 0, 0⟩ := CZY hb
 clear hM hpre hb hc
 have eFr : CS x = Gy (AH x) (AH x).ms.length := by simp only [CS]
 have eB : moB x = (bif decide (CS x >= 0) then decide (((AH x).ns.length : Int) < 20) else false) := by simp only [moB]
 have eN : moN x = ⟨CS x, ⟨BJ 0 (wr (gD (BI x).t (CS x).toNat - AL (BH x) 20)), wr (gD (BI x).t (CS x).toNat + AL (Ja x) 20)⟩, ⟨wr (gD (BI x).s (CS x).toNat - AL (Ml x) 5), wr (gD (BI x).s (CS x).toNat + AL (Lf x) 5)⟩⟩ := by simp only [moN]
 have eTo : AJ x = bif moB x then EO (AH x) (moN x) else AH x := by
  simp only [AJ, moNs, EO]
  cases moB x with
  | true => rfl
  | false => exact BO _
 have e1 : Ja x = AQ (BH x) 20 := by simp only [Ja]
 have e2 : Ml x = AQ (Ja x) 20 := by simp only [Ml]
 have e3 : Lf x = AQ (Ml x) 5 := by simp only [Lf]
 have e4 : moS4 x = AQ (Lf x) 5 := by simp only [moS4]
 have eSt : CP x = bif moB x then moS4 x else BH x := by simp only [CP]
 have eSw : Kv x = AQ (CP x) 3 := by simp only [Kv]
 have eSg : moSg x = AQ (Kv x) 3 := by simp only [moSg]
 have eP : moP x = ⟨BJ 1 (wr ((AH x).p.lo - AL (CP x) 3)), wr ((AH x).p.hi + AL (Kv x) 3)⟩ := by simp only [moP]
 have eWi : AM x = rY (AH x) (moP x) := by simp only [AM, rY]
 have eG : ∀ k, BL x k = sgK (BI x).z (moSg x) k := λ k => by simp only [BL]
 have eQ : QL x = (BL x ((AH x).ms.length - 1)).q := by simp only [QL]
 have eX : MP x = wr (gD (BI x).t 0 + MX x.t (wr (wr (gD (BI x).t ((AH x).ms.length - 1) - gD (BI x).t 0) + 1))) := by simp only [MP]
 have eZ : moZ x = ⟨AH x, (BI x).z⟩ := by simp only [moZ]
 have eL : RO x = CK (moZ x) := by simp only [RO]
 have eF : Mw x = (CJ (AH x)).q := by simp only [Mw]
 have main : (StmB 0 ⟨x.bs, 0, 0⟩) /\ (0 <= (BH x).used /\ 0 <= (Ja x).used /\ 0 <= (Ml x).used /\ 0 <= (Lf x).used /\ 0 <= (CP x).used /\ 0 <= (Kv x).used) /\ (∀ k, k <= 40 -> 0 <= (BL x k).s.used) /\ ((1 <= (AH x).ms.length /\ (AH x).ms.length <= 12) /\ (AH x).ns.length <= 12 /\ (BI x).z.length <= 40 /\ (BI x).t.length = (AH x).ms.length /\ (BI x).s.length = (AH x).ms.length) /\ (NT (moZ x) = (RO x, 0)) /\ ((CJ (AH x)).e = 0) /\ (CS x = -1 ∨ (0 <= CS x /\ CS x < (AH x).ms.length)) /\ (∀ k, SgI (BI x).z k (BL x k)) /\ ((QL x).length <= 40) /\ (NT ⟨AJ x, (BI x).z⟩ = (CK ⟨AJ x, (BI x).z⟩, 0)) /\ ((AJ x).ns.length <= 12) /\ ((CJ (AJ x)).e = 0) /\ ((Mw x).length <= (CJ (AJ x)).q.length) /\ (XA ⟨RO x, CK ⟨AJ x, (BI x).z⟩⟩ = true) /\ (NT ⟨AM x, (BI x).z⟩ = (CK ⟨AM x, (BI x).z⟩, 0)) /\ ((AM x).ns.length <= 12) /\ ((CJ (AM x)).e = 0) /\ ((CJ (AM x)).q.length <= (Mw x).length) /\ (XA ⟨CK ⟨AM x, (BI x).z⟩, RO x⟩ = true) /\ (NT ⟨AH x, QL x⟩ = (CK ⟨AH x, QL x⟩, 0)) /\ (XA ⟨CK ⟨AH x, QL x⟩, RO x⟩ = true) /\ ((CK ⟨AJ x, (BI x).z⟩).length = (AH x).ms.length /\ (CK ⟨AM x, (BI x).z⟩).length = (AH x).ms.length /\ (CK ⟨AH x, QL x⟩).length = (AH x).ms.length /\ (RO x).length = (AH x).ms.length) /\ ((AW ⟨moZ x, MP x⟩).2 = 0 /\ (AW ⟨⟨AJ x, (BI x).z⟩, MP x⟩).2 = 0 /\ (AW ⟨⟨AH x, QL x⟩, MP x⟩).2 = 0) /\ ((AW ⟨moZ x, MP x⟩).1.lo <= (AW ⟨⟨AJ x, (BI x).z⟩, MP x⟩).1.lo /\ (AW ⟨⟨AJ x, (BI x).z⟩, MP x⟩).1.hi <= (AW ⟨moZ x, MP x⟩).1.hi /\ (AW ⟨⟨AH x, QL x⟩, MP x⟩).1.lo <= (AW ⟨moZ x, MP x⟩).1.lo /\ (AW ⟨moZ x, MP x⟩).1.hi <= (AW ⟨⟨AH x, QL x⟩, MP x⟩).1.hi) := by
  generalize AH x = C at *
  generalize BI x = T at *
  generalize CS x = fr at *
  generalize moB x = B at *
  generalize moN x = N at *
  generalize AJ x = To at *
  generalize BH x = S0 at *
  generalize Ja x = S1 at *
  generalize Ml x = S2 at *
  generalize Lf x = S3 at *
  generalize moS4 x = S4 at *
  generalize CP x = St at *
  generalize Kv x = Sw at *
  generalize moSg x = Sg at *
  generalize moP x = P at *
  generalize AM x = Wi at *
  generalize BL x = G at *
  generalize QL x = Q at *
  generalize MP x = X at *
  generalize RO x = L at *
  generalize moZ x = Z at *
  generalize Mw x = F at *
  subst eZ eL eF
  have s1 : StmB 1 S1 := by rw [e1]; exact s0.next (by omega) 20
  have s2 : StmB 2 S2 := by rw [e2]; exact s1.next (by omega) 20
  have s3 : StmB 3 S3 := by rw [e3]; exact s2.next (by omega) 5
  have s4 : StmB 4 S4 := by rw [e4]; exact s3.next (by omega) 5
  have st : StmB 4 St := by
   rw [eSt]
   cases B with
   | true => exact s4
   | false => exact s0.mono (by omega)
  have sw : StmB 5 Sw := by rw [eSw]; exact st.next (by omega) 3
  have sg : StmB 6 Sg := by rw [eSg]; exact sw.next (by omega) 3
  have hfr : fr = -1 ∨ (0 <= fr /\ fr < C.ms.length /\ hasN C.ns fr = false) := by rw [eFr]; exact DDQ C C.ms.length
  have hzz := (U9 (a := ⟨C, T.z⟩) hok.m).1 hz
  have zup : T.z.Pairwise (· < ·) := hzz.2
  have zb : ∀ g ∈ T.z, 0 <= g /\ g + 1 < C.ms.length := hzz.1
  have SG : ∀ k, SgI T.z k (G k) := λ k => by rw [eG]; exact DET zup (λ g hg => (zb g hg).1) Sg k
  have hto : ToF C To T.z (gD T.t) := by
   cases B with
   | false => rw [eTo]; exact DHQ hok (by omega) hrd hT
   | true =>
    have f0 : 0 <= fr := by
     cases hd : decide (fr >= 0) with
     | true => exact of_decide_eq_true hd
     | false => rw [hd] at eB; cases eB
    obtain ⟨f1, f2, f3⟩ := hfr.resolve_left (by omega)
    have fi : fr.toNat < C.ms.length := by omega
    obtain ⟨q1, q2, q3⟩ := DHR (m := C.ms.length) ⟨f1, f2⟩ (tb _ fi) (sb _ fi) ⟨(BP s0 (by decide) 20).1, (BP s0 (by decide) 20).2 (by decide)⟩ ⟨(BP s1 (by decide) 20).1, (BP s1 (by decide) 20).2 (by decide)⟩ ⟨(BP s2 (by decide) 5).1, (BP s2 (by decide) 5).2 (by decide)⟩ ⟨(BP s3 (by decide) 5).1, (BP s3 (by decide) 5).2 (by decide)⟩
    rw [eTo]
    subst eN
    exact DFM ⟨hok, f3, q1, by omega⟩ (by omega) hrd hT q2 stt q3
  have pk := hok.p
  have hp : 1 <= P.lo /\ P.lo <= C.p.lo /\ C.p.hi <= P.hi /\ P.hi <= 600 := by
   rw [eP]
   exact DHH bd.1 bd.2 (by omega) (by omega) ⟨(BP st (by decide) 3).1, (BP st (by decide) 3).2 (by decide)⟩ ⟨(BP sw (by decide) 3).1, (BP sw (by decide) 3).2 (by decide)⟩
  have hwi : WiF C Wi T.z := by rw [eWi]; exact DQW hok (by omega) hrd hT hp
  have I := SG (C.ms.length - 1)
  have hq : okZ ⟨C, Q⟩ = true := by
   rw [eQ]
   exact (U9 (a := ⟨C, (G (C.ms.length - 1)).q⟩) hok.m).2 ⟨λ g hg => by have := I.q g hg; show 0 <= g /\ g + 1 < (C.ms.length : Int); omega, I.up⟩
  have hst : StF C T.z Q := DQC hok hrd hT hq (λ g hg => by rw [eQ]; exact I.all g hg (by have := zb g hg; omega))
  have inc : gD T.t 0 <= gD T.t (C.ms.length - 1) := hT.le hok (Nat.zero_le _) (by omega)
  have hX : gD T.t 0 <= X /\ X <= gD T.t (C.ms.length - 1) := by rw [eX]; exact DGJ (tb 0 (by omega)).1 inc (tb _ (by omega)).2
  have kn : ∃ s, StS ⟨C, T.z⟩ X s := BXY (a := ⟨C, T.z⟩) hT (C.ms.length - 1) (by show C.ms.length - 1 + 1 <= C.ms.length; omega) hX.1 hX.2
  have kn2 : ∃ s, StS ⟨To, T.z⟩ X s := BXY (a := ⟨To, T.z⟩) hto.tr (C.ms.length - 1) (by show C.ms.length - 1 + 1 <= To.ms.length; rw [hto.e]; omega) hX.1 hX.2
  obtain ⟨a1, a2, a3, a4⟩ := hto.sub.st X kn2
  obtain ⟨b1, b2, b3, b4⟩ := hst.sub.st X kn
  have hs := ((WB (w := AI ⟨C, T.z⟩) hok).1 (IA hrd).2.2).1
  have hfe := ABH hok hs hT
  have wl : Wi.ms.length = C.ms.length := by rw [eWi]; rfl
  refine ⟨hs0, ⟨s0.used.1, s1.used.1, s2.used.1, s3.used.1, st.used.1, sw.used.1⟩, λ k hk => by rw [eG]; exact (CUK (z := T.z) sg (by decide) k (by omega)).used.1, ⟨⟨l1, by omega⟩, by omega, CTK hok hz, l3, l4⟩, ADG hrd, hfe.1, ?_, SG, CTK hok hq, ADG hto.rd, hto.n, hto.fe, by rw [hfe.2.1]; exact hto.fl, hto.sub.con, ADG hwi.rd, hwi.n, hwi.fe, hwi.fl, hwi.sub.con, ADG hst.rd, hst.sub.con, ⟨(PI hto.rd).trans (by show To.ms.length = _; rw [hto.e]), (PI hwi.rd).trans wl, PI hst.rd, PI hrd⟩, ⟨a1, a2, b1⟩, ⟨a3, a4, b3, b4⟩⟩
  rcases hfr with h | ⟨h1, h2, _⟩
  ·exact .inl h
  ·exact .inr ⟨h1, h2⟩
 obtain ⟨q0, q1, q2, q3, q4, q5, q6, q7, q8, q9, q10, q11, q12, q13, q14, q15, q16, q17, q18, q19, q20, q21, q22, q23⟩ := main
 exact ⟨q0, q1, q2, q3, q4, q5, q6, q7, q8, q9, q10, q11, q12, q13, q14, q15, q16, q17, q18, q19, q20, q21, q22, q23⟩
end Go.Bal
