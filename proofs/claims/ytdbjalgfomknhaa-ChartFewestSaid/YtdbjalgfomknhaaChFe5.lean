/- Law ChartFewest: what is drawn is right (no program in sight). -/
import Derived.Test.YtdbjalgfomknhaaChFe2
import Derived.Test.YtdbjalgfomknhaaChT8
import Derived.Test.YtdbjalgfomknhaaChFe
set_option linter.unusedVariables false
set_option linter.unusedSimpArgs false
namespace Go.Bal
open Go Go.Sym Go.Proofs
def okB (bs : List Int) : Prop := ∀ i, i < bs.length -> 0 <= gD bs i /\ gD bs i <= 255
structure FeOk (x : FeI) : Prop where
 pre : wO (feM x)
 len : (RD x).ns.length <= 12
 f : ∀ k, k <= (RD x).ns.length -> FeF (RD x).ns k (feK x k)
 ok : ChOk (OV x)
 sg : ZC (OV x) = true
 m : 1 <= (OV x).ms.length /\ (OV x).ms.length <= 12
 n : (OV x).ns.length <= 12
 st : StmB 36 (feY x).s
theorem fe_1 {x : FeI} (h : okB x.bs) : wO (feM x) := CCR (m := 12) (b := true) h ⟨by decide, by decide⟩
theorem fe_2 {x : FeI} (h : okB x.bs) : ChOk (RD x) := (BCV (fe_1 h)).ok
theorem fe_3 {x : FeI} (h : okB x.bs) : (RD x).ms.length <= 12 := Int.ofNat_le.1 (BCV (fe_1 h)).len.1.2
theorem fe_4 {x : FeI} (h : okB x.bs) : (RD x).ns.length <= 12 := Nat.le_trans (BCV (fe_1 h)).len.2.2.2 (fe_3 h)
theorem fe_5 {x : FeI} (h : okB x.bs) (h2 : okB x.cs) : ∀ k, k <= (RD x).ns.length -> FeF (RD x).ns k (feK x k) := λ k hk => CAR (λ n hn => CLV ((BCV (fe_1 h)).nt n hn)) (CIM h2) k hk (fe_4 h)
theorem fe_6 {x : FeI} (h : okB x.bs) (h2 : okB x.cs) : ChOk (OV x) := by
 have hE : FeF (RD x).ns (RD x).ns.length (feY x) := fe_5 h h2 _ (Nat.le_refl _)
 exact CJM (fe_2 h) hE.len hE.mi λ i hi => by have := hE.t i hi; exact ⟨this.1, this.2.1, this.2.2.1⟩
theorem fe_7 {x : FeI} (h : okB x.bs) (h2 : okB x.cs) : ZC (OV x) = true := by
 have hE : FeF (RD x).ns (RD x).ns.length (feY x) := fe_5 h h2 _ (Nat.le_refl _)
 exact BRX (fe_2 h) (BCV (fe_1 h)).stg hE.len hE.mi (fe_6 h h2)
theorem fe_8 {ns : List Nt} {y : FeY} (h : FeF ns ns.length y) (hn : ns.length <= 12) : StmB 36 y.s := h.st.mono (by omega)
theorem CII (x : FeI) : (OV x).ms = (RD x).ms := by simp only [OV]
theorem BZQ (x : FeI) : (OV x).ns = (feY x).l := by simp only [OV]
theorem fe_9 {x : FeI} (h : okB x.bs) : 1 <= (RD x).ms.length := (BCV (fe_1 h)).len.1.1
theorem CML {x : FeI} (h : okB x.bs) (h2 : okB x.cs) : (OV x).ns.length <= 12 := by
 have hE : FeF (RD x).ns (RD x).ns.length (feY x) := fe_5 h h2 _ (Nat.le_refl _)
 rw [BZQ, hE.len]; exact fe_4 h
theorem CLW {x : FeI} (h : okB x.bs) (h2 : okB x.cs) : StmB 36 (feY x).s := by
 have hE : FeF (RD x).ns (RD x).ns.length (feY x) := fe_5 h h2 _ (Nat.le_refl _)
 exact fe_8 hE (fe_4 h)
theorem CNG {x : FeI} (h : okB x.bs) : 1 <= (OV x).ms.length /\ (OV x).ms.length <= 12 := by
 rw [CII]; exact ⟨fe_9 h, fe_3 h⟩
theorem CMF {x : FeI} (h : okB x.bs) (h2 : okB x.cs) : FeOk x := ⟨fe_1 h, fe_4 h, fe_5 h h2, fe_6 h h2, fe_7 h h2, CNG h, CML h h2, CLW h h2⟩
end Go.Bal

namespace Go.Bal
open Go Go.Sym Go.Proofs
theorem ANZ (s : Stm) : Stm.mk s.bs s.used s.mix = s := rfl
theorem CGX (x : FeI) : (OV x).p = (RD x).p /\ (OV x).base = (RD x).base /\ (OV x).scale = (RD x).scale /\ (OV x).off = (RD x).off /\ (OV x).ms = (RD x).ms /\ (OV x).ns = (feY x).l := by simp only [OV, and_self]
theorem CFX (x : FeI) : RK (MkI.mk (Stm.mk x.bs 0 0) 12 true) = RD x /\ feK x 0 = ⟨⟨x.cs, 0, 0⟩, (RD x).ns⟩ /\ (∀ k, feK x (k + 1) = AVD k (feK x k)) /\ feY x = feK x (RD x).ns.length /\ feS0 x = ⟨x.cs, 0, 0⟩ := by simp only [RD, feM, feK, feKc, feS0, feY, and_self, implies_true]
theorem CKN (x : FeI) (K : FeOk x) (h0 : (RD x).ns.length = 0) : BTL x := by
 have hp : StmB 0 ⟨x.bs, 0, 0⟩ := K.pre.1
 obtain ⟨k0, k1, k2, k3, k4⟩ := CFX x
 obtain ⟨c1, c2, c3, c4, c5, c6⟩ := CGX x
 rw [CCD]<;> delta MF BU CO FM TP WF Ua FQ FP CL AK CA DD AU BW Aj FX WN KZ XF IV HC HA HZ ID IA JD GN FW FY GY FO Ye PB JY DX DE NJ WZ Fo Xr Ln Wg Mn ANT ANR CN Bm AI BG DV AN BO XE BK CG BJ BB BY AO AM BL BV ED UZ CS CD Io CJ CX DM AZ IY CR HT DP EU Ad DH zI BA AW HD DQ GG OP EA LU EI HY DG BD FS AGW FU KR GU BE AHD EH ER EY gQ EM BZ IE MN KP EF DU EO nK FH HR B8 Bk KU PP GO FI QC IR BT NG LV MK DK DO TU LR XI uV PL XH QX EL MX fZ Yy OC NF iH YX RC YV OF Ox CE WT BS CU SY JK GV tW GP Gu Ah FV GB CF EG SX TG LM ALV TY LN TV UU TX XT PJ Hg Ks Gg PC PH Ho Hn PO OX PR RP RR UN ZR WA Aq WR XQ Vf Gv RO; simp only [CC, eq_self, implies_true, forall_const, ANZ]
 rw [k0, c1, c2, c3, c4, c5, c6, k3, h0, k1, k4]
 clear K c1 c2 c3 c4 c5 c6 k0 k1 k2 k3 k4
 generalize RD x = C at *
 have z0 : ∀ {p : Nat -> Prop}, ∀ i, i < C.ns.length -> p i := λ i h => absurd h (by omega)
 exact ⟨⟨rfl, hp, by omega, by omega⟩, ⟨0, ⟨rfl, rfl, rfl, rfl, rfl, rfl, rfl, λ _ _ => ⟨rfl, rfl⟩, rfl, λ i hi => absurd hi (Nat.not_lt_zero _), rfl, λ _ _ => rfl, rfl, rfl⟩, rfl⟩, λ a ha => ⟨λ hlt => absurd hlt (by omega), λ _ => ⟨default, rfl, rfl, rfl, rfl, rfl, rfl, λ _ _ => ⟨rfl, rfl⟩, h0, z0, rfl, λ _ _ => rfl, rfl, rfl⟩⟩⟩
theorem BWC (x : FeI) (K : FeOk x) (h0 : 0 < (RD x).ns.length) : BLZ x := by
 have hp : StmB 0 ⟨x.bs, 0, 0⟩ := K.pre.1
 have hF := K.f
 have hl := K.len
 obtain ⟨k0, k1, k2, k3, k4⟩ := CFX x
 obtain ⟨c1, c2, c3, c4, c5, c6⟩ := CGX x
 rw [BRQ]<;> delta MF BU CO FM TP WF Ua FQ FP CL AK CA DD AU BW Aj GM FX WN KZ KB XF NR IV HC HA HZ ID IA JD GN FW FY GY FO Ye PB ZA MG YE DX DE Vy NJ WZ Fo Xr Ln Wg Mn ANT ANR CN AI BG DV AN BO XE BK CG BJ BB BY AO AM BL BV ED AOW AWG cS Bh UZ CS CD VB Io CJ CX DM AZ IY CR HT DP EU Ad DH zI BA AW DQ GG OP EA LU EI HY DG BD AGW FU KR GU BE AHD EH ER AJ EY FR BH gQ EM DI BZ IE HM KP EF DU EO nK FH LB HR B8 Bk KU PP GO FI LC TL JX QC IR NL BQ OT BT NG VD LV DK TU LR XI HB DC uV PL XH QX EL fZ Yy OC iH YX YV CM OF KD Ox WT CU MU SY LJ JO EW GV tW GP Gu Ah GB CF EG oR SX TG LM ALV YN TY LN TV MT Fb IH UU Da NT TX XT PJ Hg Ks WM Gg PC PH SU TN Hn PO OX PR RP RR Ai YG UN XQ Vf Fd Oe Gv jD Uq Nf ZT RO; simp only [CC, eq_self, implies_true, forall_const, ANZ]
 rw [k0, c1, c2, c3, c4, c5, c6, k3]
 clear K c1 c2 c3 c4 c5 c6 k0 k3 k4
 generalize feK x = f at *
 generalize RD x = C at *
 refine ⟨⟨rfl, ⟨hp, by omega, by omega⟩, h0⟩, ⟨0, ⟨rfl, rfl, rfl, rfl, rfl, rfl, rfl, λ _ _ => ⟨rfl, rfl⟩, rfl, rfl, ?_⟩, Nat.zero_le _⟩, λ a ha => ⟨λ hlt => ?_, λ hge => ?_⟩⟩
 ·rw [k1]; exact ⟨λ _ _ => ⟨rfl, rfl, rfl, rfl, rfl⟩, rfl, λ _ _ => rfl, rfl, rfl⟩
 ·have hlt : a < C.ns.length := by omega
  have F := hF a ha
  have s1 := F.st.next (by omega) 4
  have s2 := s1.next (by omega) 300
  have ln := F.len
  have e : IntKind.i64.wrap ((a : Int) + 1) = ((a + 1 : Nat) : Int) := HH (by omega)
  rw [e]
  refine ⟨⟨rfl, F.st.used.1⟩, λ hz => ⟨⟨⟨by omega, by omega⟩, hlt, rfl, s1.used.1, ⟨by omega, by omega⟩, hlt⟩, ⟨⟨by omega, by omega⟩, hlt, rfl, s2.used.1, ⟨by omega, by omega⟩, hlt⟩, a + 1, ⟨rfl, ?_⟩, by omega, by omega⟩, λ hz => ⟨a + 1, ⟨rfl, ?_⟩, by omega, by omega⟩⟩
  ·rw [k2]; unfold AVD; rw [hz]
   refine ⟨λ i hi => ?_, rfl, λ _ _ => rfl, rfl, rfl⟩
   show (gD (setN (f a).l a _) i).mi = _ /\ (gD (setN (f a).l a _) i).t.lo = _ /\ (gD (setN (f a).l a _) i).t.hi = _ /\ (gD (setN (f a).l a _) i).s.lo = _ /\ (gD (setN (f a).l a _) i).s.hi = _
   rw [BGC (by omega)]
   by_cases q : i = a
   ·rw [q, decide_eq_true (rfl : a = a)]; exact ⟨rfl, rfl, rfl, rfl, rfl⟩
   ·rw [decide_eq_false q]; exact ⟨rfl, rfl, rfl, rfl, rfl⟩
  ·rw [k2]; unfold AVD; rw [hz]
   exact ⟨λ _ _ => ⟨rfl, rfl, rfl, rfl, rfl⟩, rfl, λ _ _ => rfl, rfl, rfl⟩
 ·obtain rfl : a = C.ns.length := by omega
  exact ⟨default, rfl, rfl, rfl, rfl, rfl, rfl, λ _ _ => ⟨rfl, rfl⟩, (hF _ (Nat.le_refl _)).len, Nat.le_refl _, λ _ _ => ⟨rfl, rfl, rfl, rfl, rfl⟩, rfl, λ _ _ => rfl, rfl, rfl⟩
end Go.Bal

namespace Go.Bal
open Go Go.Sym Go.Proofs
theorem BTW {C : Cht} (h : ChOk C) (hs : ZC C = true) {q : List Int} (hz : okZ ⟨C, q⟩ = true) {n : Nat} (hn : n <= (PS C).q.length) : (bif (mK (EE (CZ.mk C q))).2 != 0 then true else bif (mK (EE (CZ.mk C q))).1 then decide ((q.length : Int) < (n : Int)) else false) = true -> true = false := by
 have A := ANC h hs hz
 rw [A.1]
 cases e : (mK (EE (CZ.mk C q))).1 with
 | false => intro h; cases h
 | true =>
  have := BDL h hs hz e
  rw [decide_eq_false (by omega)]; intro h; cases h
theorem BQP {C : Cht} (h : ChOk C) {t : Nat -> Int} (ht : TrC C (WL ⟨C, (PS C).q⟩).sp t) {l : List Pr} (hl : l.length <= 20) (hp : ∀ p ∈ l, OS C p = true) {m : Int} {n : Nat} (hn : n = (PS C).q.length) : (bif (QY (Prv.mk C m l)).2 != 0 then true else bif (QY (Prv.mk C m l)).1 then decide (m > (n : Int)) else false) = true -> true = false := by
 subst hn
 have hl : l.length <= 40 := by omega
 have e2 : (QY (Prv.mk C m l)).2 = 0 := by rw [O5 (x := ⟨C, m, l⟩) h hl hp]
 rw [e2]
 cases e : (QY (Prv.mk C m l)).1 with
 | false => intro h; cases h
 | true =>
  have := BNC (x := ⟨C, m, l⟩) h hl hp ht (λ g hg => (AXG (a := ⟨C, (PS C).q⟩) h.m (BFS h) g).1 hg) e
  have this : m <= (PS C).q.length := this
  rw [decide_eq_false (by omega)]; intro h; cases h
theorem AXP {C : Cht} (hn : C.ns.length <= 20) {y : Int} {k : Nat} (hy : 0 <= y /\ y < C.ns.length) (hk : k < C.ns.length) {b : Bool} (h : (bif decide ((gD C.ns y.toNat).mi < (gD C.ns k).mi) then b else false) = true) : OS C ⟨y, k⟩ = true := by
 have h1 : (gD C.ns y.toNat).mi < (gD C.ns k).mi := by
  by_cases e : (gD C.ns y.toNat).mi < (gD C.ns k).mi
  ·exact e
  ·rw [decide_eq_false e] at h; cases h
 have w : wr ((C.ns.length : Int) - 1) = (C.ns.length : Int) - 1 := PE (by omega) (by omega)
 unfold OS
 rw [show uT C.ns.length ⟨y, k⟩ = true by unfold uT Fw; rw [w]; simp only [Bool.and_eq_true, decide_eq_true_eq]; omega, show decide ((nA C ⟨y, k⟩).mi < (nB C ⟨y, k⟩).mi) = true from decide_eq_true h1]
 cases e : (y == (k : Int) && (k : Int) == y) with
 | false => rfl
 | true =>
  rw [Bool.and_eq_true, beq_iff_eq] at e
  rw [e.1, Int.toNat_natCast] at h1
  exact absurd h1 (Int.lt_irrefl _)
theorem BYO {k : Nat} : feGp (k + 1) [(k : Int)] := ⟨List.pairwise_singleton _ _, λ y hy => by rw [List.mem_singleton.1 hy]; omega⟩
theorem BQK {k m : Nat} {q : List Int} (h : feGp k q) (hm : k <= m) : feGp m q := ⟨h.1, λ y hy => by have := h.2 y hy; omega⟩
theorem BOM {k : Nat} {q : List Int} (h : feGp k q) : feGp (k + 1) (q ++ [(k : Int)]) := ⟨List.pairwise_append.2 ⟨h.1, List.pairwise_singleton _ _, λ y hy z hz => by rw [List.mem_singleton.1 hz]; exact (h.2 y hy).2⟩, λ y hy => by
 rcases List.mem_append.1 hy with hy | hy
 ·have := h.2 y hy; omega
 ·rw [List.mem_singleton.1 hy]; omega⟩
theorem BHH {k : Nat} : ∀ {q : List Int}, feGp k q -> q.length <= k := by
 induction k with
 | zero =>
  intro q h
  cases q with
  | nil => exact Nat.zero_le _
  | cons a q => have := h.2 a (by simp); omega
 | succ k ih =>
  intro q h
  rcases List.eq_nil_or_concat q with e | ⟨l, a, e⟩
  ·subst e; exact Nat.zero_le _
  ·rw [List.concat_eq_append] at e
   subst e
   have hp := List.pairwise_append.1 h.1
   have ha := h.2 a (by simp)
   have : l.length <= k := ih ⟨hp.1, λ y hy => by
    have h1 := h.2 y (by simp [hy])
    have h2 := hp.2.2 y hy a (by simp)
    omega⟩
   simp; omega
theorem BMH {C : Cht} (h : ChOk C) {q : List Int} (hq : feGp (C.ms.length - 1) q) : okZ ⟨C, q⟩ = true := (AOS (a := ⟨C, q⟩) h.m).2 ⟨λ g hg => by have := hq.2 g hg; have := h.m; show 0 <= g /\ g + 1 < (C.ms.length : Int); omega, hq.1⟩
theorem BYX {k : Nat} : feGp k [] := ⟨List.Pairwise.nil, λ y hy => by cases hy⟩
theorem CDK (n : Nat) : feGp n (allG n) := by
 refine ⟨?_, λ y hy => ?_⟩
 ·unfold allG HX
  rw [List.pairwise_map]
  exact List.pairwise_lt_range.imp λ h => Int.ofNat_lt.2 h
 ·obtain ⟨i, hi, rfl⟩ := XR hy
  rw [allG, rng_length] at hi
  rw [allG, EK _ _ _ hi]; omega
theorem CBN {n i : Nat} (h : i < (allG n).length) : gD (allG n) i = (i : Int) := by
 rw [allG, rng_length] at h
 rw [allG, EK _ _ _ h]
theorem BQL {C : Cht} {p : Pr} (h : OS C p = true) : ∀ z ∈ [p], OS C z = true := λ z hz => by rw [List.mem_singleton.1 hz]; exact h
theorem BKZ {C : Cht} {q : List Pr} {p : Pr} (h0 : ∀ z ∈ q, OS C z = true) (h : OS C p = true) : ∀ z ∈ q ++ [p], OS C z = true := λ z hz => by
 rcases List.mem_append.1 hz with hz | hz
 ·exact h0 z hz
 ·rw [List.mem_singleton.1 hz]; exact h
theorem BLD (q : List Pr) (p : Pr) {i : Nat} (hi : i < (q ++ [p]).length) : (gD (q ++ [p]) i).a = (bif decide (i < q.length) then (gD q i).a else p.a) /\ (gD (q ++ [p]) i).b = (bif decide (i < q.length) then (gD q i).b else p.b) := by
 rw [APO q p (by simpa using hi)]
 cases decide (i < q.length) <;> exact ⟨rfl, rfl⟩
theorem AXF {a b : Int} {c : Bool} {Q : Prop} (h : ¬a < b) : (bif decide (a < b) then c else false) = true -> Q := λ e => by rw [decide_eq_false h] at e; cases e
end Go.Bal
