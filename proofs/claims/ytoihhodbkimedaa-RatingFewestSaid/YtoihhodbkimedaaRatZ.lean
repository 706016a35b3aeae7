/- Package rating: Passes, Through, At. -/
import Derived.Test.YtoihhodbkimedaaRatW
import Derived.Test.YtoihhodbkimedaaRT5
set_option linter.unusedVariables false
set_option linter.unusedSimpArgs false
namespace Go.Bal
open Go Go.Sym Go.Proofs
structure GR where
 g : List Gau
 r : Rtg
def notP (a : GR) (i : Nat) : Bool := !KI (gD a.r.l (Tl a.r.b (gD a.g i).st)) (gD a.g i)
def pasK (a : GR) (n : Nat) : List Int := ((List.range n).filter (notP a)).map Int.ofNat
def pasE (a : GR) : Int := bif AZ a.g == 0 then cB a.r else AZ a.g
def pasM (a : GR) : List Int := bif pasE a == 0 then pasK a a.g.length else []
def rtgC (r : Rtg) : HCell := .live (.box [.d (DC r.b), .d (wY r.l)])
def thrK (a : GB) : Nat -> Nat -> Bool
 | 0, _ => true
 | n + 1, k => bif (CS (Jq (PE a) k)).2 then thrK a n (k + 1) else false
def wS (a : GB) : Bool := bif DQ a == 0 then thrK a (a.b.length + 1) 0 else false
def C_Through : Ctr := { α := GB, xs := xGB, L := λ _ => [], val := λ a => .tup [.bool (wS a), .int (DQ a)], keep := λ _ => [], pre := λ x => [preB x /\ True] }
def th5 (a : GB) : Shape := { α := Nat, dflt := 0, T := λ k => ⟨[(6, .bptr 2032 0), (22, .int (a.b.length + 1)), (23, .int k)], bkH (PE a) 2032 2033⟩, inv := λ k => k <= a.b.length + 1 /\ wS a = thrK a (a.b.length + 1 - k) k, meas := λ k => a.b.length + 1 - k }
def G_th (c : Sym.Spec) : List (FuncId × Sym.Spec) := [(Sb, c), (AAY, C_inside.spec dBkI), (AIJ, C_line.spec dGsK)]
def CAC (a : GB) : Ann := { ann 36 (G_th (C_open.spec dGB)) with loops := λ id => if id = 5 then some [th5 a] else none }
def CAD : Ann := { ann 36 (G_th (C_openX.spec dGB)) with cut := λ id => if id = 4 then some [] else none }
def CAK (a : GB) : Prop := CH Try.prog (CAC a) gW (AI gW) (xGB a) (AD []) (C_Through.val a) [] [] []
abbrev Wo:=wS
abbrev pA a:=Cu (TF a)
abbrev YX a:=ABS (DJ a)
attribute [go_sem] Wo pA YX
theorem CET (a : GB) : (CAK a) = (UH (JV (Bj a a) (Ax a a) (ZF a) (TF a) (Bf a) (Bl a) (CD (UT a))) (SA (λ i=>AE (And (AO (Xg (TF a)) (DP (FP (TF a)))) (MW (CN i) (EY (Of a) (HZ a)) (EV (Of a) (HZ a)) (QQ (DJ a) (HZ a)) (IQ (DJ a) (HZ a)) WJ (HN (DJ a) (HZ a)) (λ j=>BS (DJ a) j (HZ a) (λ k=>BT k (DJ a) j (BV (DJ a) j k (HZ a)) (BX (DJ a) j k (HZ a)) (BU (DJ a) j k (HZ a)) (BF (DJ a) j k) (BF (HZ a) j k))))) (DB i (pA a)) (KY (Wo a) (thrK a (FM (pA a) i) i)))) (λ i=>DH (Qo i (pA a) (KY (Wo a) (thrK a (FM (pA a) i) i))) i (Xg (TF a)) (BC (AY (FI i) (EY (WI (DJ a)) (DJ a)) (EV (WI (DJ a)) (DJ a)) (Nd (Cp (DJ a)) (DJ a)) (MA (Cp (DJ a)) (DJ a)) (AQ DO WJ (HL (DJ a)) (AR (λ j=>BS (YX a) j (DJ a) (λ k=>BT k (YX a) j (BV (YX a) j k (DJ a)) (BX (YX a) j k (DJ a)) (BU (YX a) j k (DJ a)) (BF (YX a) j k) (BF (DJ a) j k)))) (AW (Of a) (WI (DJ a))) (BE (Of a) (WI (DJ a))) (Cx (DJ a) (Cp (DJ a))) (RB (DJ a) (Cp (DJ a))) (AQ DO WJ (HL (DJ a)) (AR (λ j=>BS (DJ a) j (YX a) (λ k=>BT k (DJ a) j (BV (DJ a) j k (YX a)) (BX (DJ a) j k (YX a)) (BU (DJ a) j k (YX a)) (BF (DJ a) j k) (BF (YX a) j k)))) (And (IP (WI (DJ a)) (Cp (DJ a)) DT) EF) (BR (bW (YX a) (BK i))) (BW (bW (YX a) (BK i))) (Pg (bW (YX a) (BK i))) (Aq (bW (YX a) (BK i)))))) (Xl (bW (YX a) (BK i))) (And (ME (Wo a)) (CD (Cs a))) (SA (λ j=>QU (MT (Xg (TF a)) (MW (BJ j i) (AS (Of a)) (CB (Of a)) (BO (NV (DJ a))) (Km (NV (DJ a)) (DJ a)) WJ (HL (DJ a)) (λ k=>SH (DJ a) k (λ l=>SD l (DJ a) k (SP (DJ a) k l) (BF (DJ a) k l))))) (Qo j (pA a) (KY (Wo a) (thrK a (FM (pA a) j) j))) (pA a) j i))) (And (LW (Wo a)) (CD (Cs a))))) := by kernel_rfl
def BYS (a : GB) : Prop := CH Try.prog CAD gW (AI gW) (xGB a) (AD []) (C_Through.val a) [] [] []
theorem CDT (a : GB) : (BYS a) = (AE (JV (Bj a a) (Ax a a) (ZF a) (TF a) (Bf a) (Bl a) (Bm (UT a))) (FA (KO (UT a)) (Mj (Wo a) (Cs a) (UT a)) WQ) EF) := by kernel_rfl
structure RtI where
 r : Rtg
 t : Int
def atF (a : RtI) : Rt := JP (gD a.r.l (Tl a.r.b a.t)) a.t
def atE (a : RtI) : Int := bif cB a.r == 0 then (bif Cb a.t 0 2000 then 0 else 4) else cB a.r
def atM (a : RtI) : Rt := bif atE a == 0 then atF a else ⟨0, 0⟩
theorem CEF {g : List Gau} {b : List Int} (h : XS g b) (k : Int) : (Jq (PE ⟨g, b⟩) k).length < 1073741824 /\ ∀ x ∈ Jq (PE ⟨g, b⟩) k, XH x := by
 obtain ⟨h1, h2, _⟩ := h
 refine ⟨?_, λ x hx => h2 x (List.mem_filter.1 hx).1⟩
 have : (Jq (PE ⟨g, b⟩) k).length <= g.length := List.length_filter_le _ _
 omega
theorem AMA : AL Try.prog AIM (C_Through.spec dGB) := Ctr.spec_ok (C := C_Through) (λ (a : GB) h => by
 have h : preB a := (show preB a /\ True from h).1
 by_cases hE : DQ a = 0
 ·refine Lg (A := CAC a) (L := []) (keep := []) (ren := []) (fz := []) AQO (by kernel_rfl) (AB AAE (AB wF (AB Z3 AF))) ?_
  show CAK a; rw [CET]<;> delta KY Dc GH HK FK KZ KR LU MC KN PN FA AO AT CX AG CG CM EM BK DB DW DT QP PD RO FM PQ DM GP SA EF XV XJ Cr KT iA RR RQ ZE AR Ii Bw GE MO bW TF DJ Cs Lz Lm Wo KK AE KC AJ AP NV DR AU AK BO JQ ZD QS WI DK AX AJL Ib AQ AH Uu Jr BH CY Wy rZ BN CL CZ CA KF DP FT GI BB ED Ek rH HI ZF HZ hP CQ EP DF FP MX FC NT DG EN AW Cu AY BF LW CJ DE DN AS EO Kp ZI DS DY Lb CD LI Ls Cp ABS EU FE TC DV HP FG Jo CE MK CO JN QF JE IF DO MN Fc Lj FB HD BE CB XF AHF BC LO MS BW BS JC EZ LA Dg BJ Ef HL BR MU Hd ME DH SH SP BT FI UG EV SG BU BX BV YT EY MR CN OW RB MT FW SM MD MW IQ SD HN MA YX KM Km Kz Ns QQ IP WJ Td Xl Of UH QU UT JV Tv Aq Uk Cx Bl Bf Ax Bj Nd pA Xg Qo Pg; simp only [CC, eq_self, implies_true, forall_const, Ec]
  have hb : XS a.g a.b := AAZ hE
  have hl := hb.2.2.1
  have eT : wS a = thrK a (a.b.length + 1) 0 := by unfold wS; rw [hE]; rfl
  refine ⟨⟨h.1, h.2, hE⟩, ⟨0, ⟨(LS (by omega) (by omega)).symm, rfl⟩, Nat.zero_le _, eT⟩, λ k ⟨k1, k2⟩ => ⟨λ hlt => ?_, λ hge => ?_⟩⟩
  ·obtain ⟨n, hn⟩ : ∃ n, a.b.length + 1 - k = n + 1 := ⟨a.b.length - k, by omega⟩
   rw [hn] at k2; unfold thrK at k2
   refine ⟨⟨hb, CEF hb _⟩, λ hq => ?_, λ hq => ?_⟩
   ·rw [hq] at k2; exact ⟨k2, hE⟩
   ·rw [hq] at k2
    exact ⟨k + 1, (EQ (by omega)).symm, ⟨by omega, by rw [show a.b.length + 1 - (k + 1) = n by omega]; exact k2⟩, by omega⟩
  ·rw [show a.b.length + 1 - k = 0 by omega] at k2
   exact ⟨k2, hE⟩
 ·refine Lg (A := CAD) (L := []) (keep := []) (ren := []) (fz := []) AQO (by kernel_rfl) (AB Y1 (AB wF (AB Z3 AF))) ?_
  show BYS a; rw [CDT]<;> delta KY Dc GH HK FK Tu FA AO AT CX AG CG CM EM PQ WQ DM GP EF TF Cs Lm Wo KK AE KC AJ AP AU QS AX Jr BH CY rZ BN CL CZ FT GI BB HI ZF CQ DF FC DG EN AW DE DN EO DS DY EU FE DV HP FG CE CO MN FB BE JC EB ME KO FW SM KM Bm UT JV Tv Uk Bl Bf Ax Bj Mj; simp only [CC, eq_self, implies_true, forall_const, Ec]
  refine ⟨⟨h.1, h.2, hE⟩, λ _ => ?_, λ hc => ?_⟩
  ·unfold wS; rw [show (DQ a == 0) = false by simpa using hE]; rfl
  ·have hE : DQ ⟨a.g, a.b⟩ ≠ 0 := hE
   exact hE (by simpa using hc)) _
end Go.Bal

namespace Go.Bal
open Go Go.Sym Go.Proofs
structure RtOk (g : List Gau) (r : Rtg) : Prop where
 chk : AZ g = 0
 asc : asc r.b
 brk : ∀ x ∈ r.b, 1 <= x /\ x <= 2000
 few : r.b.length <= 24
 lines : r.l.length = r.b.length + 1
 rise : ∀ x ∈ r.l, NJ x
 pass : ∀ i, i <= r.b.length -> (OJ (gD r.l i)).passes (NM g r.b i)
theorem RtOk.chkR {g : List Gau} {r : Rtg} (h : RtOk g r) : cB r = 0 := by
 unfold cB
 rw [AUZ h.asc h.brk h.few, h.lines, List.all_eq_true.2 λ x hx => cP.2 (h.rise x hx)]
 simp
theorem RtOk.thru {g : List Gau} {r : Rtg} (h : RtOk g r) : Thru g r.b :=
 ⟨(MP h.chk).1, (MP h.chk).2, h.asc, h.brk, h.few, λ i hi => ⟨_, h.rise _ (DU (by rw [h.lines]; omega)), h.pass i hi⟩⟩
theorem RtOk.passes {g : List Gau} {r : Rtg} (h : RtOk g r) : pasE ⟨g, r⟩ = 0 /\ pasM ⟨g, r⟩ = [] := by
 have e : pasE ⟨g, r⟩ = 0 := by
  show (bif AZ g == 0 then cB r else AZ g) = 0
  rw [h.chk, h.chkR]; rfl
 refine ⟨e, ?_⟩
 unfold pasM; rw [e]
 show pasK ⟨g, r⟩ g.length = []
 unfold pasK
 rw [List.map_eq_nil_iff, List.filter_eq_nil_iff]
 intro i hi hc
 have hi := List.mem_range.1 hi
 have hle := tK r.b (gD g i).st
 have hp := h.pass (Tl r.b (gD g i).st) hle _ (ZS.2 ⟨DU hi, rfl⟩)
 have ho : NJ (gD r.l (Tl r.b (gD g i).st)) := h.rise _ (DU (by rw [h.lines]; omega))
 have hc : (!KI (gD r.l (Tl r.b (gD g i).st)) (gD g i)) = true := hc
 rw [(ADR ho).2 hp] at hc; cases hc
theorem BBQ {a : GB} : ∀ (n k : Nat), thrK a n k = true -> ∀ j, k <= j -> j < k + n -> (CS (Jq (PE a) j)).2 = true
 | 0, _, _, j, h1, h2 => by omega
 | n + 1, k, h, j, h1, h2 => by
  unfold thrK at h
  cases hq : (CS (Jq (PE a) k)).2 with
  | false => rw [hq] at h; cases h
  | true =>
   rw [hq] at h
   by_cases hj : j = k
   ·rw [hj]; exact hq
   ·exact BBQ n (k + 1) h j (by omega) (by omega)
theorem BWD {g : List Gau} {b : List Int} (ho : ∀ x ∈ g, XH x) (h : wS ⟨g, b⟩ = true) : ∀ i : Nat, i <= b.length -> Can (NM g b i) := λ i hi => by
 unfold wS at h
 cases hc : DQ ⟨g, b⟩ == 0 with
 | false => rw [hc] at h; cases h
 | true =>
  rw [hc] at h
  exact (lJ (mX ho)).1.1 (BBQ _ _ h i (Nat.zero_le _) (by show i < 0 + (b.length + 1); omega))
theorem RtOk.at {g : List Gau} {r : Rtg} (h : RtOk g r) {t : Int} (ht : 0 <= t /\ t <= 2000) : atE ⟨r, t⟩ = 0 /\ yK (atM ⟨r, t⟩) /\ Si (Ez ⟨g, r.b, t⟩).lo (atM ⟨r, t⟩) /\ Si (atM ⟨r, t⟩) (Ez ⟨g, r.b, t⟩).hi := by
 have e : atE ⟨r, t⟩ = 0 := by
  show (bif cB r == 0 then (bif Cb t 0 2000 then 0 else 4) else cB r) = 0
  rw [h.chkR, show Cb t 0 2000 = true by unfold Cb; simpa using ht]; rfl
 have hle := tK r.b t
 have ho : NJ (gD r.l (Tl r.b t)) := h.rise _ (DU (by rw [h.lines]; omega))
 have e2 : atM ⟨r, t⟩ = JP (gD r.l (Tl r.b t)) t := by unfold atM; rw [e]; rfl
 have hp := h.pass _ hle
 have hT := h.thru
 obtain ⟨i1, i2, i3⟩ := hT.in hle ht
 rw [e2, (hT.flow ht).2]
 refine ⟨e, HY ho, ?_, ?_⟩
 ·exact (AKM ho i1.1.1).2 (BFP (mX hT.ok) ht (LB ho) hp)
 ·exact (AUP ho i2.1.1).2 (BRZ (mX hT.ok) ht (LB ho) hp)
theorem Thru.sound {g : List Gau} {b : List Int} (h : Thru g b) {t : Int} (ht : 0 <= t /\ t <= 2000) : Lp ⟨g, b, t⟩ = 0 /\ yK (Ez ⟨g, b, t⟩).lo /\ yK (Ez ⟨g, b, t⟩).hi /\ sndM (Ez ⟨g, b, t⟩) = true := by
 obtain ⟨h1, h2⟩ := h.flow ht
 obtain ⟨i1, i2, i3⟩ := h.in (tK b t) ht
 rw [h2]
 exact ⟨h1, i1, i2, CEA i1 i2 i3⟩
end Go.Bal

namespace Go.Bal
open Go Go.Sym Go.Proofs
theorem BMU {g u : List Gau} (h : ∀ x ∈ g, x ∈ u) (b : List Int) (k : Int) : ∀ x ∈ NM g b k, x ∈ NM u b k := λ x hx => by
 obtain ⟨h1, h2⟩ := ZS.1 hx
 exact ZS.2 ⟨h x h1, h2⟩
structure Wid (g w : List Gau) : Prop where
 len : w.length = g.length
 at_ : ∀ i, i < g.length -> (gD w i).st = (gD g i).st /\ (gD w i).lo <= (gD g i).lo /\ (gD g i).hi <= (gD w i).hi
theorem Wid.pass {g w : List Gau} (h : Wid g w) (b : List Int) (k : Int) {y : Ln} (hy : NJ y) (hp : (OJ y).passes (NM g b k)) : (OJ y).passes (NM w b k) := λ x hx => by
 obtain ⟨h1, h2⟩ := ZS.1 hx
 obtain ⟨i, hi, rfl⟩ := YL h1
 rw [h.len] at hi
 obtain ⟨a1, a2, a3⟩ := h.at_ i hi
 obtain ⟨p1, p2⟩ := hp (gD g i) (ZS.2 ⟨DU hi, by rw [<- a1]; exact h2⟩)
 have hw := (LB hy).1
 unfold Rl.pass
 rw [a1]
 exact ⟨Int.le_trans (Int.mul_le_mul_of_nonneg_right a2 (Int.le_of_lt hw)) p1, Int.le_trans p2 (Int.mul_le_mul_of_nonneg_right a3 (Int.le_of_lt hw))⟩
theorem Wid.thru {g w : List Gau} (h : Wid g w) (ho : ∀ x ∈ w, XH x) {b : List Int} (hT : Thru g b) : Thru w b :=
 ⟨by rw [h.len]; exact hT.len, ho, hT.asc, hT.brk, hT.few, λ k hk => by
  obtain ⟨x, h1, h2⟩ := hT.thru k hk
  exact ⟨x, h1, h.pass b k h1 h2⟩⟩
end Go.Bal

namespace Go.Bal
open Go Go.Sym Go.Proofs
theorem BRN {s : List Gau} (hs : ∀ g ∈ s, XH g) {f : Rl} (hf : f.ok) (hp : f.passes s) : Can s := by
 by_cases hne : s = []
 ·subst hne
  have ho : NJ (BP ⟨0, 0⟩) := dJ ⟨Int.le_refl _, by show (0 : Int) <= 2000; omega, Int.le_refl _, by show (0 : Int) <= 200000; omega⟩
  exact ⟨_, ho, λ g hg => by cases hg⟩
 ·obtain ⟨g, hg, h1, _⟩ := ARF hf hp hne
  obtain ⟨y, _, y2, y3, _⟩ := vN hs (M6 hg) hf.1 hf.2 h1
  exact ⟨y, y2, y3⟩
theorem Thru.same {g u : List Gau} {b : List Int} (h : Thru g b) (he : ∀ x, x ∈ u ↔ x ∈ g) (hu : 1 <= u.length /\ u.length <= 24) : Thru u b :=
 ⟨hu, λ x hx => h.ok x ((he x).1 hx), h.asc, h.brk, h.few, λ k hk => by
  obtain ⟨x, h1, h2⟩ := h.thru k hk
  exact ⟨x, h1, λ y hy => h2 y (BMU (λ z hz => (he z).1 hz) b k y hy)⟩⟩
end Go.Bal

namespace Go.Bal
open Go Go.Sym Go.Proofs
def cmb (a b c d : Int) (f g h k : Rl) : Rl := ⟨a * f.p + b * g.p + c * h.p + d * k.p, a * f.q + b * g.q + c * h.q + d * k.q, a * f.w + b * g.w + c * h.w + d * k.w⟩
theorem BXO (a b c d : Int) (f g h k : Rl) (u : Int) : (cmb a b c d f g h k).num u = a * f.num u + b * g.num u + c * h.num u + d * k.num u := by unfold cmb Rl.num; grind
theorem vP {a : Int} {f : Rl} {s : Gau} (ha : 0 <= a) (h : a = 0 ∨ f.pass s) : s.lo * (a * f.w) <= a * f.num s.st /\ a * f.num s.st <= s.hi * (a * f.w) := by
 rcases h with rfl | ⟨h1, h2⟩
 ·simp
 ·have a1 := Int.mul_le_mul_of_nonneg_left h1 ha
  have a2 := Int.mul_le_mul_of_nonneg_left h2 ha
  have e1 : a * (s.lo * f.w) = s.lo * (a * f.w) := by grind
  have e2 : a * (s.hi * f.w) = s.hi * (a * f.w) := by grind
  omega
theorem Sd {a b c d : Int} {f g h k : Rl} {s : List Gau} (p : 0 <= a /\ 0 <= b /\ 0 <= c /\ 0 <= d) (h1 : a = 0 ∨ f.passes s) (h2 : b = 0 ∨ g.passes s) (h3 : c = 0 ∨ h.passes s) (h4 : d = 0 ∨ k.passes s) : (cmb a b c d f g h k).passes s := λ x hx => by
 have q1 := vP p.1 (h1.imp id λ h => h x hx)
 have q2 := vP p.2.1 (h2.imp id λ h => h x hx)
 have q3 := vP p.2.2.1 (h3.imp id λ h => h x hx)
 have q4 := vP p.2.2.2 (h4.imp id λ h => h x hx)
 unfold Rl.pass
 rw [BXO]
 show x.lo * (a * f.w + b * g.w + c * h.w + d * k.w) <= _ /\ _ <= x.hi * (a * f.w + b * g.w + c * h.w + d * k.w)
 have e1 : x.lo * (a * f.w + b * g.w + c * h.w + d * k.w) = x.lo * (a * f.w) + x.lo * (b * g.w) + x.lo * (c * h.w) + x.lo * (d * k.w) := by grind
 have e2 : x.hi * (a * f.w + b * g.w + c * h.w + d * k.w) = x.hi * (a * f.w) + x.hi * (b * g.w) + x.hi * (c * h.w) + x.hi * (d * k.w) := by grind
 omega
theorem rel3 (a b c d e f : Int) : ∃ x y z : Int, ¬(x = 0 /\ y = 0 /\ z = 0) /\ x * a + y * c + z * e = 0 /\ x * b + y * d + z * f = 0 := by
 by_cases h : c * f - d * e = 0 /\ e * b - f * a = 0 /\ a * d - b * c = 0
 ·obtain ⟨h1, h2, h3⟩ := h
  by_cases ha : a = 0
  ·by_cases hb : b = 0
   ·exact ⟨1, 0, 0, by omega, by rw [ha]; omega, by rw [hb]; omega⟩
   ·exact ⟨d, -b, 0, by omega, by grind, by grind⟩
  ·exact ⟨c, -a, 0, by omega, by grind, by grind⟩
 ·exact ⟨c * f - d * e, e * b - f * a, a * d - b * c, h, by grind, by grind⟩
theorem rel4 (f g h k : Rl) (hw : 0 < f.w) : ∃ a b c d : Int, ¬(a = 0 /\ b = 0 /\ c = 0 /\ d = 0) /\ cmb a b c d f g h k = ⟨0, 0, 0⟩ := by
 obtain ⟨x, y, z, h1, h2, h3⟩ := rel3 (f.w * g.p - g.w * f.p) (f.w * g.q - g.w * f.q) (f.w * h.p - h.w * f.p) (f.w * h.q - h.w * f.q) (f.w * k.p - k.w * f.p) (f.w * k.q - k.w * f.q)
 refine ⟨-(x * g.w + y * h.w + z * k.w), f.w * x, f.w * y, f.w * z, λ ⟨_, b1, b2, b3⟩ => h1 ?_, ?_⟩
 ·have hn : f.w ≠ 0 := by omega
  exact ⟨(Int.mul_eq_zero.1 b1).resolve_left hn, (Int.mul_eq_zero.1 b2).resolve_left hn, (Int.mul_eq_zero.1 b3).resolve_left hn⟩
 ·unfold cmb
  refine (Rl.mk.injEq _ _ _ _ _ _).mpr ⟨?_, ?_, ?_⟩
  ·grind
  ·grind
  ·grind
def poI (c : Int) : Int := if 0 < c then c else 0
def neI (c : Int) : Int := if c < 0 then -c else 0
theorem pneg (c : Int) : c = poI c - neI c /\ 0 <= poI c /\ 0 <= neI c /\ (c <= 0 -> poI c = 0) /\ (0 <= c -> neI c = 0) /\ (0 < c -> 0 < poI c) /\ (c < 0 -> 0 < neI c) := by
 unfold poI neI
 split <;> split <;> omega
theorem wC (c p : Int) : c * p = poI c * p - neI c * p := by
 rw [<- Int.sub_mul, <- (pneg c).1]
theorem BKY {a b c d : Int} {f g h k : Rl} (e : cmb a b c d f g h k = ⟨0, 0, 0⟩) : cmb (poI a) (poI b) (poI c) (poI d) f g h k = cmb (neI a) (neI b) (neI c) (neI d) f g h k := by
 unfold cmb at e ⊢
 obtain ⟨e1, e2, e3⟩ := (Rl.mk.injEq _ _ _ _ _ _).mp e
 rw [wC a, wC b, wC c, wC d] at e1 e2 e3
 exact (Rl.mk.injEq _ _ _ _ _ _).mpr ⟨by omega, by omega, by omega⟩
theorem BMS {a b c d : Int} {f g h k : Rl} (p : 0 <= a /\ 0 <= b /\ 0 <= c /\ 0 <= d) (q : 0 < a ∨ 0 < b ∨ 0 < c ∨ 0 < d) (hf : f.ok) (hg : g.ok) (hh : h.ok) (hk : k.ok) : (cmb a b c d f g h k).ok := by
 obtain ⟨p1, p2, p3, p4⟩ := p
 have a1 := Int.mul_nonneg p1 (Int.le_of_lt hf.1)
 have a2 := Int.mul_nonneg p2 (Int.le_of_lt hg.1)
 have a3 := Int.mul_nonneg p3 (Int.le_of_lt hh.1)
 have a4 := Int.mul_nonneg p4 (Int.le_of_lt hk.1)
 have b1 := Int.mul_nonneg p1 hf.2
 have b2 := Int.mul_nonneg p2 hg.2
 have b3 := Int.mul_nonneg p3 hh.2
 have b4 := Int.mul_nonneg p4 hk.2
 refine ⟨?_, by show 0 <= a * f.q + b * g.q + c * h.q + d * k.q; omega⟩
 show 0 < a * f.w + b * g.w + c * h.w + d * k.w
 rcases q with q | q | q | q
 ·have := Int.mul_pos q hf.1; omega
 ·have := Int.mul_pos q hg.1; omega
 ·have := Int.mul_pos q hh.1; omega
 ·have := Int.mul_pos q hk.1; omega
theorem CDS {A B C D : List Gau} {f g h k : Rl} (hf : f.ok) (hg : g.ok) (hh : h.ok) (hk : k.ok) (f2 : f.passes B) (f3 : f.passes C) (f4 : f.passes D) (g1 : g.passes A) (g3 : g.passes C) (g4 : g.passes D) (h1 : h.passes A) (h2 : h.passes B) (h4 : h.passes D) (k1 : k.passes A) (k2 : k.passes B) (k3 : k.passes C) : ∃ x : Rl, x.ok /\ x.passes A /\ x.passes B /\ x.passes C /\ x.passes D := by
 obtain ⟨a, b, c, d, hn, e⟩ := rel4 f g h k hf.1
 have e := BKY e
 obtain ⟨_, pa, na, pa0, na0, pa1, na1⟩ := pneg a
 obtain ⟨_, pb, nb, pb0, nb0, pb1, nb1⟩ := pneg b
 obtain ⟨_, pc, nc, pc0, nc0, pc1, nc1⟩ := pneg c
 obtain ⟨_, pd, nd, pd0, nd0, pd1, nd1⟩ := pneg d
 have P : 0 <= poI a /\ 0 <= poI b /\ 0 <= poI c /\ 0 <= poI d := ⟨pa, pb, pc, pd⟩
 have N : 0 <= neI a /\ 0 <= neI b /\ 0 <= neI c /\ 0 <= neI d := ⟨na, nb, nc, nd⟩
 refine ⟨cmb (poI a) (poI b) (poI c) (poI d) f g h k, ?_, ?_, ?_, ?_, ?_⟩
 ·by_cases hq : 0 < poI a ∨ 0 < poI b ∨ 0 < poI c ∨ 0 < poI d
  ·exact BMS P hq hf hg hh hk
  ·rw [e]
   refine BMS N ?_ hf hg hh hk
   have z1 : ¬0 < a := λ h => hq (.inl (pa1 h))
   have z2 : ¬0 < b := λ h => hq (.inr (.inl (pb1 h)))
   have z3 : ¬0 < c := λ h => hq (.inr (.inr (.inl (pc1 h))))
   have z4 : ¬0 < d := λ h => hq (.inr (.inr (.inr (pd1 h))))
   by_cases y1 : a < 0
   ·exact .inl (na1 y1)
   ·by_cases y2 : b < 0
    ·exact .inr (.inl (nb1 y2))
    ·by_cases y3 : c < 0
     ·exact .inr (.inr (.inl (nc1 y3)))
     ·exact .inr (.inr (.inr (nd1 (by omega))))
 ·by_cases hc : a <= 0
  ·exact Sd P (.inl (pa0 hc)) (.inr g1) (.inr h1) (.inr k1)
  ·rw [e]; exact Sd N (.inl (na0 (by omega))) (.inr g1) (.inr h1) (.inr k1)
 ·by_cases hc : b <= 0
  ·exact Sd P (.inr f2) (.inl (pb0 hc)) (.inr h2) (.inr k2)
  ·rw [e]; exact Sd N (.inr f2) (.inl (nb0 (by omega))) (.inr h2) (.inr k2)
 ·by_cases hc : c <= 0
  ·exact Sd P (.inr f3) (.inr g3) (.inl (pc0 hc)) (.inr k3)
  ·rw [e]; exact Sd N (.inr f3) (.inr g3) (.inl (nc0 (by omega))) (.inr k3)
 ·by_cases hc : d <= 0
  ·exact Sd P (.inr f4) (.inr g4) (.inr h4) (.inl (pd0 hc))
  ·rw [e]; exact Sd N (.inr f4) (.inr g4) (.inr h4) (.inl (nd0 (by omega)))
theorem Aw {f : Rl} {s t : List Gau} : f.passes (s ++ t) ↔ f.passes s /\ f.passes t :=
 ⟨λ h => ⟨λ x hx => h x (List.mem_append.2 (.inl hx)), λ x hx => h x (List.mem_append.2 (.inr hx))⟩, λ h x hx => (List.mem_append.1 hx).elim (h.1 x) (h.2 x)⟩
theorem AQL : ∀ (n : Nat) (L : List (List Gau)), L.length = n -> (∀ A B C, A ∈ L -> B ∈ L -> C ∈ L -> ∃ x : Rl, x.ok /\ x.passes A /\ x.passes B /\ x.passes C) -> ∃ x : Rl, x.ok /\ ∀ A ∈ L, x.passes A
 | _, [], _, _ => ⟨⟨0, 0, 1⟩, ⟨Int.one_pos, Int.le_refl _⟩, λ A hA => by cases hA⟩
 | _, [A], _, h => by
  obtain ⟨x, h1, h2, _⟩ := h A A A (by simp) (by simp) (by simp)
  exact ⟨x, h1, λ X hX => by rw [List.mem_singleton.1 hX]; exact h2⟩
 | 0, A :: B :: R, hl, _ => by simp at hl
 | n + 1, A :: B :: R, hl, h => by
  have mA : A ∈ A :: B :: R := by simp
  have mB : B ∈ A :: B :: R := by simp
  have q : ∀ Y Z, Y ∈ A :: B :: R -> Z ∈ A :: B :: R -> ∃ x : Rl, x.ok /\ x.passes A /\ x.passes B /\ x.passes Y /\ x.passes Z := λ Y Z hY hZ => by
   obtain ⟨f, hf, f2, f3, f4⟩ := h B Y Z mB hY hZ
   obtain ⟨g, hg, g1, g3, g4⟩ := h A Y Z mA hY hZ
   obtain ⟨h', hh, h1, h2, h4⟩ := h A B Z mA mB hZ
   obtain ⟨k, hk, k1, k2, k3⟩ := h A B Y mA mB hY
   exact CDS hf hg hh hk f2 f3 f4 g1 g3 g4 h1 h2 h4 k1 k2 k3
  have up : ∀ X, X ∈ R -> X ∈ A :: B :: R := λ X hX => List.mem_cons_of_mem _ (List.mem_cons_of_mem _ hX)
  obtain ⟨x, h1, h2⟩ := AQL n ((A ++ B) :: R) (by simp at hl ⊢; omega) λ X Y Z hX hY hZ => by
   rcases List.mem_cons.1 hX with rfl | hX <;> rcases List.mem_cons.1 hY with rfl | hY <;> rcases List.mem_cons.1 hZ with rfl | hZ
   ·obtain ⟨x, a1, a2, a3, _⟩ := q A A mA mA
    have := Aw.2 ⟨a2, a3⟩
    exact ⟨x, a1, this, this, this⟩
   ·obtain ⟨x, a1, a2, a3, a4, _⟩ := q Z Z (up Z hZ) (up Z hZ)
    have := Aw.2 ⟨a2, a3⟩
    exact ⟨x, a1, this, this, a4⟩
   ·obtain ⟨x, a1, a2, a3, a4, _⟩ := q Y Y (up Y hY) (up Y hY)
    have := Aw.2 ⟨a2, a3⟩
    exact ⟨x, a1, this, a4, this⟩
   ·obtain ⟨x, a1, a2, a3, a4, a5⟩ := q Y Z (up Y hY) (up Z hZ)
    exact ⟨x, a1, Aw.2 ⟨a2, a3⟩, a4, a5⟩
   ·obtain ⟨x, a1, a2, a3, a4, _⟩ := q X X (up X hX) (up X hX)
    have := Aw.2 ⟨a2, a3⟩
    exact ⟨x, a1, a4, this, this⟩
   ·obtain ⟨x, a1, a2, a3, a4, a5⟩ := q X Z (up X hX) (up Z hZ)
    exact ⟨x, a1, a4, Aw.2 ⟨a2, a3⟩, a5⟩
   ·obtain ⟨x, a1, a2, a3, a4, a5⟩ := q X Y (up X hX) (up Y hY)
    exact ⟨x, a1, a4, a5, Aw.2 ⟨a2, a3⟩⟩
   ·exact h X Y Z (up X hX) (up Y hY) (up Z hZ)
  refine ⟨x, h1, λ X hX => ?_⟩
  obtain ⟨a1, a2⟩ := Aw.1 (h2 (A ++ B) (by simp))
  rcases List.mem_cons.1 hX with rfl | hX
  ·exact a1
  ·rcases List.mem_cons.1 hX with rfl | hX
   ·exact a2
   ·exact h2 X (List.mem_cons_of_mem _ hX)
theorem CAB {s : List Gau} (ho : ∀ g ∈ s, XH g) (h : ∀ a b c, a ∈ s -> b ∈ s -> c ∈ s -> Can [a, b, c]) : Can s := by
 obtain ⟨x, h1, h2⟩ := AQL _ (s.map λ g => [g]) rfl λ A B C hA hB hC => by
  obtain ⟨a, ha, rfl⟩ := List.mem_map.1 hA
  obtain ⟨b, hb, rfl⟩ := List.mem_map.1 hB
  obtain ⟨c, hc, rfl⟩ := List.mem_map.1 hC
  obtain ⟨y, y1, y2⟩ := h a b c ha hb hc
  exact ⟨OJ y, LB y1, λ g hg => y2 g (by simp_all), λ g hg => y2 g (by simp_all), λ g hg => y2 g (by simp_all)⟩
 exact BRN ho h1 λ g hg => h2 [g] (List.mem_map.2 ⟨g, hg, rfl⟩) g (by simp)
end Go.Bal
