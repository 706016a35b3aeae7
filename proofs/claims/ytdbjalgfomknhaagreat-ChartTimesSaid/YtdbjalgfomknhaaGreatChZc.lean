/- Package chart, with the reference: Holds. -/
import Derived.Test.YtdbjalgfomknhaaGreatChZb
set_option linter.unusedVariables false
set_option linter.unusedSimpArgs false
namespace Go.Bal
open Go Go.Sym Go.Proofs
def zh0 (x : CT) : Prop := AM x.c = 0 /\ x.t.t.length = x.c.ms.length /\ x.t.s.length = x.c.ms.length /\ rX (fQ x) = true
def zh1 (x : CT) (i : Nat) : Prop := KT (gD x.t.s i) (Dv x.c i).lo (Dv x.c i).hi = true /\ (0 < i -> zN x (i - 1) = true)
def zh2 (x : CT) (j : Nat) : Prop := KT (gD x.t.t (gD x.c.ns j).mi.toNat) (gD x.c.ns j).t.lo (gD x.c.ns j).t.hi = true
def zhH (x : CT) : List (Nat × HCell) := [(201, .live (sJ x.c)), (202, .live (.box [.d (DV x.t.t), .d (DV x.t.s), .d (DV x.t.z)]))]
def zh7 (x : CT) : Shape := { α := Nat, dflt := 0, T := λ k => ⟨[(2, .bptr 201 0), (3, .bptr 202 0), (7, .int k)], zhH x⟩, inv := λ k => (k <= x.c.ms.length /\ zh0 x) /\ ∀ i, i < k -> KT (gD x.t.t i) (-100000000) 100000000 = true, meas := λ k => x.c.ms.length - k, first := [(201, 1000), (202, 1016)] }
def zh12 (x : CT) : Shape := { α := Nat, dflt := 0, T := λ k => ⟨[(2, .bptr 201 0), (3, .bptr 202 0), (8, .int k)], zhH x⟩, inv := λ k => (k <= x.c.ms.length /\ zh0 x /\ inT x.t.t = true) /\ ∀ i, i < k -> zh1 x i, meas := λ k => x.c.ms.length - k }
def zh20 (x : CT) : Shape := { α := Nat, dflt := 0, T := λ k => ⟨[(2, .bptr 201 0), (3, .bptr 202 0), (10, .int k)], zhH x⟩, inv := λ k => (k <= x.c.ns.length /\ zh0 x /\ inT x.t.t = true) /\ (∀ i, i < x.c.ms.length -> zh1 x i) /\ ∀ j, j < k -> zh2 x j, meas := λ k => x.c.ns.length - k }
def BBR (x : CT) : Ann := { ann 156 [(dA, C_Check.spec kM), (AJE, C_zUnl.spec pZ), (tM, L6), (pW, C_zst.spec dCtI), (zK, C_zLea.spec dCtI), (AAZ, C_zMos.spec dCZG)] with loops := λ id => if id = 7 then some [zh7 x] else if id = 12 then some [zh12 x] else if id = 20 then some [zh20 x] else none }
def BHE (x : CT) : Prop := CH Try.prog (BBR x) ACX (AH ACX) (xCT x) (AB []) (.tup [.bool (Bm x).1, .int (Bm x).2]) [] [] []
abbrev aN a b:=BS (CI a) b
abbrev nX a:=CK (inT (QZ a))
abbrev Wp a:=CK (rX (fQ a))
abbrev AJK a b:=EN a (YO b)
abbrev Xq a b:=AJK (Bl a) b
abbrev Xd a b:=AJK (QZ a) b
abbrev Xs a:=KP (CI a)
abbrev oD a:=HE (CI a)
abbrev lY a:=CG (CI a)
abbrev mG a:=JS (CI a)
abbrev kW a:=BX (CI a)
abbrev jM a:=AV (CI a)
abbrev gE a:=AS (CI a)
abbrev Xa a:=AP (CI a)
abbrev Vz a:=AT (CI a)
abbrev Tw a:=AQ (CI a)
attribute [go_sem] aN nX Wp AJK Xq Xd Xs oD lY mG kW jM gE Xa Vz Tw
theorem BKG (x : CT) : (BHE x) = (And (Fc (Tw x) (CI x) (UE (CI x) (Wh x) (CI x) (CI x) (Ch (CI x)) (HM (CI x)))) (Hu (JZ (PW (Jm x))) x (AR (Fd x) (PW (Jm x))) (And (Ko (IF (Ta (QZ x) x) (Ta (Bl x) x)) (QS (CI x) (RJ (CI x) (Wh x) (BL (CI x)) (BE (CI x)) (CB (Ng x) (Ac x)) (λ i=>LS i (Ng x) (Ac x)) (FI (Ng x)) (KP (Jm x))))) (Hu (An (Ta (QZ x) x) (Ta (Bl x) x) (not (rX (Fj x x)))) x (AR (Fd x) 2) (DP (λ i=>IG (FX (BR i) (Tw x) (Vz x) (Xa x) (gE x) (jM x) (kW x) (KM (mG x) (lY x) (oD x) (Ka x) (Ms x) (Ls x) (λ j=>Ml j x) (Jv x) (λ j=>WU j (Ac x)))) (AF (DJ i (YO x)) (Xs x) (Xd x x) (Xq x x) (Wp x)) (λ j=>Aj j i (Ti (QZ x) j))) (λ i=>GC (HS (AF (DJ i (YO x)) (Xs x) (Xd x x) (Xq x x) (Wp x)) (λ j=>Aj j i (Ti (QZ x) j))) i (LP (QZ x)) (MW i (QZ x)) (Hu (not (Ti (QZ x) i)) x (AR (Fd x) 4) (GN (λ j=>EB (FX (BD j i) (Tw x) (Vz x) (Xa x) (gE x) (jM x) (kW x) (KM (mG x) (lY x) (oD x) (Ka x) (Ms x) (Ls x) (λ k=>Ml k x) (Jv x) (λ k=>WU k (Ac x)))) (HS (AF (DJ j (YO x)) (Xs x) (Xd x x) (Xq x x) (Wp x)) (λ k=>Aj k j (Ti (QZ x) k))) (YO x) j i))) (DP (λ j=>IG (FX (BR j) (Tw x) (Vz x) (Xa x) (gE x) (jM x) (kW x) (KM (mG x) (lY x) (oD x) (Ka x) (Ms x) (Ls x) (λ k=>Ml k x) (Jv x) (λ k=>WU k (Ac x)))) (AE (DJ j (YO x)) (AO (Xs x) (Xd x x) (Xq x x) (Wp x)) (nX x)) (λ k=>BH k j (CK (WX (Bl x) k (Ai (CI x) k) (Bt (CI x) k))) (Aj 0 k (zN x (OF k))))) (λ j=>BU (HS (AE (DJ j (YO x)) (AO (Xs x) (Xd x x) (Xq x x) (Wp x)) (nX x)) (λ k=>BH k j (CK (WX (Bl x) k (Ai (CI x) k) (Bt (CI x) k))) (Aj 0 k (zN x (OF k))))) (KS (HB j (LP (QZ x))) (AO (Tw x) (Vz x) (Xa x) (QJ (CI x) (Wh x) (BL (CI x)) (BE (CI x)) (BI (CI x)) (IM j) (FR j (DQ (CI x))) (KP (Jm x)))) (And (MW j (Bl x)) (Ko (JH (FK (Bl x) j) (Ai (Jm x) j)) (MW j (Bl x)))) (Hu (IF (JH (FK (Bl x) j) (Ai (Jm x) j)) (JM (FK (Bl x) j) (Bt (Jm x) j))) x (Yv x) (And (EW (HF (Bp j) (MW j (QZ x))) (NU (Bp j) (ME j) (jI x)) (HF (Bp j) (AO (Tw x) (Vz x) (Xa x) (QJ (CI x) (Wh x) (BL (CI x)) (BE (CI x)) (BI (CI x)) (AG (ME j)) (FH (ME j) (NL (ME j) 1) (DQ (CI x))) (KP (Jm x))))) (HF (and (Bp j) (Yn (GI (YA x j) (YA x (Ik j))) (Tk (Dd (CI x)) (Jm x) (Ik j)))) (MW j (QZ x))) (NU (and (Bp j) (Yn (GI (YA x j) (YA x (Ik j))) (Tk (Dd (CI x)) (Jm x) (Ik j)))) (ME j) (jI x)) (HF (and (Bp j) (Yn (GI (YA x j) (YA x (Ik j))) (Tk (Dd (CI x)) (Jm x) (Ik j)))) (IR (Tw x) (Vz x) (Xa x) (gE x) (jM x) (Wh x) (UW (CI x) (CB (Ng x) (Ac x)) (CW (Ng x) (Ac x)) (AG (ME j)) (FH (ME j) (NL (ME j) 1) (DQ (CI x))) (FI (Ng x)) (KP (Jm x)))))) (Hu (ER (Bp j) (IF (JH (GI (YA x j) (YA x (Ik j))) (Tk (Dd (CI x)) (Jm x) (Ik j))) (JM (GI (YA x j) (YA x (Ik j))) (sI (Fj x x) (ME j))))) x (Yv x) (GN (λ k=>EB (FX (BD k j) (Tw x) (Vz x) (Xa x) (gE x) (jM x) (kW x) (KM (mG x) (lY x) (oD x) (Ka x) (Ms x) (Ls x) (λ l=>Ml l x) (Jv x) (λ l=>WU l (Ac x)))) (HS (AE (DJ k (YO x)) (AO (Xs x) (Xd x x) (Xq x x) (Wp x)) (nX x)) (λ l=>BH l k (CK (WX (Bl x) l (Ai (CI x) l) (Bt (CI x) l))) (Aj 0 l (zN x (OF l))))) (YO x) k j))))) (DP (λ k=>Fg (FX (BR k) (Tw x) (Vz x) (Xa x) (gE x) (jM x) (kW x) (KM (mG x) (lY x) (oD x) (Ka x) (Ms x) (Ls x) (λ l=>Ml l x) (Jv x) (λ l=>WU l (Ac x)))) (AE (XK k (CI x)) (AO (Xs x) (Xd x x) (Xq x x) (Wp x)) (nX x)) (AD (λ l=>EV l (CI x) (CK (WX (Bl x) l (Ai (CI x) l) (Bt (CI x) l))) (Aj 0 l (zN x (OF l))))) (λ l=>Aj l k (WX (QZ x) (FY (aN x l)) (Aw (CI x) l) (Dp (CI x) l)))) (λ k=>BU (HU (XK k (CI x)) (AO (Xs x) (Xd x x) (Xq x x) (Wp x)) (nX x) (AD (λ l=>EV l (CI x) (CK (WX (Bl x) l (Ai (CI x) l) (Bt (CI x) l))) (Aj 0 l (zN x (OF l))))) (AD (λ l=>Aj l k (WX (QZ x) (FY (aN x l)) (Aw (CI x) l) (Dp (CI x) l))))) (KS (Ff k (AN (CI x))) (YZ k (CI x)) (And (CD (aN x k) (jI x)) (NU (Yn (YA x (FY (aN x k))) (Aw (CI x) k)) (aN x k) (jI x))) (Hu (IF (JH (YA x (FY (aN x k))) (Aw (CI x) k)) (JM (YA x (FY (aN x k))) (Dp (CI x) k))) x (Yv x) (GN (λ l=>EB (FX (BD l k) (Tw x) (Vz x) (Xa x) (gE x) (jM x) (kW x) (KM (mG x) (lY x) (oD x) (Ka x) (Ms x) (Ls x) (λ m=>Ml m x) (Jv x) (λ m=>WU m (Ac x)))) (HU (XK l (CI x)) (AO (Xs x) (Xd x x) (Xq x x) (Wp x)) (nX x) (AD (λ m=>EV m (CI x) (CK (WX (Bl x) m (Ai (CI x) m) (Bt (CI x) m))) (Aj 0 m (zN x (OF m))))) (AD (λ m=>Aj m l (WX (QZ x) (FY (aN x m)) (Aw (CI x) m) (Dp (CI x) m))))) (AN (CI x)) l k))) (And (CK (So x)) (Yv x)))))))))))))) := by kernel_rfl
theorem AJO {f g : Nat -> Bool} (h0 : f 0 = true) (hf : ∀ k, f (k + 1) = (f k && g k)) : ∀ {n : Nat}, (∀ i, i < n -> g i = true) -> f n = true
 | 0, _ => h0
 | n + 1, h => by rw [hf, AJO h0 hf λ i hi => h i (by omega), h n (by omega)]; rfl
theorem AJL {l : List Int} (h : inT l = true) {i : Nat} (hi : i < l.length) : -100000000 <= gD l i /\ gD l i <= 100000000 :=
 GX.1 (List.all_eq_true.1 h _ (TY hi))
theorem BSK {l : List Int} (h : ∀ i, i < l.length -> KT (gD l i) (-100000000) 100000000 = true) : inT l = true :=
 List.all_eq_true.2 λ a ha => by obtain ⟨i, hi, rfl⟩ := YH ha; exact h i hi
theorem hldA {x : CT} (h : zh0 x) : Bm x = bif inT x.t.t then (hdN x x.c.ms.length && hgN x (x.c.ms.length - 1), 0) else (false, 4) := by
 obtain ⟨h0, h1, h2, h3⟩ := h
 unfold Bm MO
 rw [ANP, h0, h3]
 show hldO x = _
 unfold hldO
 rw [decide_eq_true (show x.t.t.length = x.c.ms.length /\ x.t.s.length = x.c.ms.length from ⟨h1, h2⟩)]; rfl
theorem BPI {x : CT} (h : zh0 x) (ht : inT x.t.t = true) {i : Nat} (hi : i < x.c.ms.length) (hb : hd1 x i = false) : (Bm x).fst = false /\ (Bm x).snd = 0 := by
 rw [hldA h, ht]
 refine ⟨?_, rfl⟩
 show (hdN x x.c.ms.length && _) = false
 rw [AFE (f := hdN x) (g := hd1 x) (λ _ => rfl) hi hb]; rfl
theorem BWE {x : CT} (h : zh0 x) (ht : inT x.t.t = true) {i : Nat} (hi : i < x.c.ms.length - 1) (hb : zN x i = false) : (Bm x).fst = false /\ (Bm x).snd = 0 := by
 rw [hldA h, ht]
 refine ⟨?_, rfl⟩
 show (hdN x x.c.ms.length && hgN x (x.c.ms.length - 1)) = false
 rw [AFE (f := hgN x) (g := zN x) (λ _ => rfl) hi hb, Bool.and_false]
theorem gapZ {x : CT} (h : zh0 x) (ht : inT x.t.t = true) {a : Nat} (h1 : 0 < a) (ha : a < x.c.ms.length) {v : Bool} (hv : (bif decide (IntKind.i64.wrap (gD x.t.t a - gD x.t.t (IntKind.i64.wrap ((a : Int) - 1)).toNat) < x.c.p.lo * WC x.c (IntKind.i64.wrap ((a : Int) - 1)).toNat) then true else decide (IntKind.i64.wrap (gD x.t.t a - gD x.t.t (IntKind.i64.wrap ((a : Int) - 1)).toNat) > Ke (fQ x) (IntKind.i64.wrap ((a : Int) - 1)))) = v) : zN x (a - 1) = !v := by
 obtain ⟨h0, hl, _, hz⟩ := h
 have hc := QR.1 h0
 obtain ⟨m1, m2⟩ := hc.m
 obtain ⟨g, rfl⟩ : ∃ g, a = g + 1 := ⟨a - 1, by omega⟩
 have e1 : IntKind.i64.wrap (((g + 1 : Nat) : Int) - 1) = (g : Int) := by rw [Bc (by omega) (by omega)]; omega
 rw [e1] at hv
 have t1 := AJL ht (i := g) (by omega)
 have t2 := AJL ht (i := g + 1) (by omega)
 have e3 : ((g : Nat) : Int).toNat = g := by omega
 unfold Ke at hv
 rw [e3, Bc (by omega) (by omega)] at hv
 rw [<- hv]
 unfold zN wr
 rw [show g + 1 - 1 = g by omega, Qp (w := CV (fQ x)) hc ha, Bc (by omega) (by omega)]
 have es : (CV (fQ x)).sp g = K8 (fQ x).z (g : Int) := by
  rw [Bool.eq_iff_iff, AVF (a := fQ x) ⟨m1, m2⟩ hz, xY]
 unfold gapP
 rw [es]
 show KT _ (x.c.p.lo * WC x.c g) (bif K8 (fQ x).z (g : Int) then 200000000 else x.c.p.hi * WC x.c g) = _
 generalize x.c.p.lo * WC x.c g = lo
 have e4 : (fQ x).c = x.c := rfl
 rw [e4]
 generalize x.c.p.hi * WC x.c g = hi
 unfold KT
 cases K8 (fQ x).z (g : Int) with
 | true =>
  show _ = !(bif decide (_ < lo) then true else decide (_ > (300000000 : Int)))
  rw [decide_eq_false (show ¬ gD x.t.t (g + 1) - gD x.t.t g > 300000000 by omega), show decide (gD x.t.t (g + 1) - gD x.t.t g <= bif true then 200000000 else hi) = true from decide_eq_true (by show _ <= (200000000 : Int); omega)]
  by_cases q : lo <= gD x.t.t (g + 1) - gD x.t.t g <;> simp [q] <;> omega
 | false =>
  show (_ && decide (_ <= hi)) = !(bif decide (_ < lo) then true else decide (_ > hi))
  by_cases q : lo <= gD x.t.t (g + 1) - gD x.t.t g <;> by_cases q2 : gD x.t.t (g + 1) - gD x.t.t g <= hi <;> simp [q, q2] <;> omega
theorem AAW {a b c : Int} {v : Bool} (h : (bif decide (a < b) then true else decide (a > c)) = v) : KT a b c = !v := by
 rw [<- h]; unfold KT
 by_cases q : b <= a <;> by_cases q2 : a <= c <;> simp [q, q2] <;> omega
theorem BUM {x : CT} (h : zh0 x) {j : Nat} (hj : j < x.c.ns.length) (hb : KT (gD x.t.t (gD x.c.ns j).mi.toNat) (gD x.c.ns j).t.lo (gD x.c.ns j).t.hi = false) : hd1 x (gD x.c.ns j).mi.toNat = false := by
 have hc := QR.1 h.1
 have hn := hc.nt _ (TY hj)
 have hm := hn.mi
 have e1 : (((gD x.c.ns j).mi.toNat : Nat) : Int) = (gD x.c.ns j).mi := by omega
 unfold hd1
 rw [Zr (by omega)]
 unfold S8
 rw [e1, xF.2 ⟨_, TY hj, rfl⟩, hc.ntOf (TY hj)]
 show (KT _ (gD x.c.ns j).t.lo (gD x.c.ns j).t.hi && _) = false
 rw [hb]; rfl
theorem BXX {x : CT} (h : zh0 x) (ht : inT x.t.t = true) (h1 : ∀ i, i < x.c.ms.length -> zh1 x i) (h2 : ∀ j, j < x.c.ns.length -> zh2 x j) : (Bm x).fst = true /\ (Bm x).snd = 0 := by
 have hc := QR.1 h.1
 rw [hldA h, ht]
 refine ⟨?_, rfl⟩
 show (hdN x x.c.ms.length && hgN x (x.c.ms.length - 1)) = true
 rw [AJO (f := hdN x) (g := hd1 x) rfl (λ _ => rfl) λ i hi => ?_, AJO (f := hgN x) (g := zN x) rfl (λ _ => rfl) λ i hi => ?_]
 ·rfl
 ·exact (h1 (i + 1) (by omega)).2 (by omega)
 ·unfold hd1
  rw [(h1 i hi).1, Bool.and_true, Zr hi]
  unfold S8
  cases hq : hasN x.c.ns i with
  | false =>
   have := AJL ht (i := i) (by rw [h.2.1]; exact hi)
   exact GX.2 this
  | true =>
   obtain ⟨q1, q2⟩ := fC hq
   obtain ⟨j, hj, e⟩ := YH q1
   have h3 := h2 j hj
   unfold zh2 at h3
   rw [e, q2] at h3
   exact h3
theorem BSQ (x : CT) (hp : (x.c.ms.length < 4611686018427387904 /\ x.c.ns.length < 4611686018427387904 /\ x.t.z.length < 4611686018427387904) /\ x.t.t.length < 4611686018427387904 /\ x.t.s.length < 4611686018427387904) : BHE x := by
 obtain ⟨⟨l1, l2, l3⟩, l4, l5⟩ := hp
 rw [BKG]<;> delta KH wN ZR BG BJ EC MM NO Hc ES ET BW AD BU CL AR BZ DJ EK JH HO KB NL LO EJ GW EX HP HN HJ GT GB HC DU GG FE JW GN FP FK VV JL JM PW FY NJ Ri SW sY sS CI sI AE CR FA BB GA AF PX AY AU AG EM EZ BC AX FC BM CJ AK AN DD BH HX BY BP CX Uf HZ BN CY BS CE HQ FU AV DA AQ Ac EV DW QY AZ LX DQ CP FT AS FS DM AP ID AT EG CN BX GI CM HD CG IY GP GU EN DS FH HV AO CK DT EL Ng FV CD EP HW EO IV DB FN CB FM AIN KM QZ HF PV JB DZ BD EA PG MB FQ FR IW BE Jm DX FO FZ LL LP Ki JS GH TZ IC LB IM Bl EW IQ HS HB BO EB BK SM WU LS CS EE ME EF GM FI IF KP BR BI BL HE OF Gz MK HU FX HM YO GC DP CW WX ER KO KS JZ MD XX IG MW Fd So AJK Dd YA IR NU An QJ Ao Aj XK Ai RJ QS Au Bt Ms Ls Ik Ti Fj Ka Ch Bp Fc Ml Aw Jv Tw UW Hu YZ Dp Xs XQ Wp Xa Xq Yv Vz Xd Ff Ta Ko aN Wh Tk gE UE Fg Yn jM nX oD jI mG lY kW; simp only [CC, eq_self, implies_true, forall_const, CU, BDB]
 refine ⟨⟨l1, l2⟩, λ h => ?_, λ h => ?_⟩
 ·have h : AM x.c ≠ 0 := by simpa using h
  have h' : (AM x.c == 0) = false := by simpa using h
  have e : MO (fQ x) = AM x.c := by unfold MO; rw [ANP, h']; rfl
  unfold Bm; rw [e, h']; exact ⟨rfl, rfl⟩
 have h0 : AM x.c = 0 := by simpa using h
 have hc := QR.1 h0
 obtain ⟨m1, m2⟩ := hc.m
 have hn := hc.n
 refine ⟨λ _ => ⟨l3, h0⟩, λ h => ?_, λ h => ?_⟩
 ·have e : MO (fQ x) = bif rX (fQ x) then 0 else 2 := by unfold MO; rw [ANP, h0]; rfl
  unfold Bm hldO; rw [e]
  by_cases q1 : x.t.t.length = x.c.ms.length <;> by_cases q2 : x.t.s.length = x.c.ms.length <;> cases hq : rX (fQ x) <;> simp [q1, q2]
  rw [q1, q2, hq] at h; simp at h
 have hz : zh0 x := by
  by_cases q1 : x.t.t.length = x.c.ms.length
  ·by_cases q2 : x.t.s.length = x.c.ms.length
   ·refine ⟨h0, q1, q2, ?_⟩
    cases hq : rX (fQ x) with
    | true => rfl
    | false => rw [q1, q2, hq] at h; simp at h
   ·exfalso
    have : ((x.t.s.length : Int) != x.c.ms.length) = true := by rw [bne_iff_ne]; omega
    rw [this] at h; simp at h
  ·exfalso
   have : ((x.t.t.length : Int) != x.c.ms.length) = true := by rw [bne_iff_ne]; omega
   rw [this] at h; simp at h
 have hz' := hz
 obtain ⟨_, q1, q2, q3⟩ := hz'
 refine ⟨⟨0, rfl, ⟨Nat.zero_le _, hz⟩, λ i hi => absurd hi (Nat.not_lt_zero _)⟩, λ k ⟨⟨k1, _⟩, k2⟩ => ⟨λ hlt => ⟨by omega, λ h4 => ?_, λ h4 => ⟨k + 1, (HY (by omega)).symm, ⟨⟨by omega, hz⟩, λ i hi => ?_⟩, by omega⟩⟩, λ hge => ?_⟩⟩
 ·rw [hldA hz]
  cases hq : inT x.t.t with
  | false => exact ⟨rfl, rfl⟩
  | true => rw [GX.2 (AJL hq (i := k) (by omega))] at h4; cases h4
 ·by_cases e : i = k
  ·subst e; exact h4
  ·exact k2 i (by omega)
 have hT : inT x.t.t = true := BSK λ i hi => k2 i (by omega)
 refine ⟨⟨0, rfl, ⟨Nat.zero_le _, hz, hT⟩, λ i hi => absurd hi (Nat.not_lt_zero _)⟩, λ k ⟨⟨k1, _⟩, k2⟩ => ⟨λ hlt => ⟨⟨by omega, h0⟩, ⟨by omega, λ _ => by omega⟩, λ h4 => ?_, λ h4 => ?_⟩, λ hge => ?_⟩⟩
 ·refine BPI hz hT (i := k) (by omega) ?_
  unfold hd1; rw [AAW h4]; simp
 ·have hs := AAW h4
  have ew : IntKind.i64.wrap ((k : Int) - 1) = (k : Int) - 1 := Bc (by omega) (by omega)
  have hg : ∀ v, (bif decide ((k : Int) > 0) then bif decide (IntKind.i64.wrap (gD x.t.t k - gD x.t.t (IntKind.i64.wrap ((k : Int) - 1)).toNat) < x.c.p.lo * WC x.c (IntKind.i64.wrap ((k : Int) - 1)).toNat) then true else decide (IntKind.i64.wrap (gD x.t.t k - gD x.t.t (IntKind.i64.wrap ((k : Int) - 1)).toNat) > Ke (fQ x) (IntKind.i64.wrap ((k : Int) - 1))) else false) = v -> 0 < k -> zN x (k - 1) = !v := by
   intro v hv hk
   rw [decide_eq_true (show (k : Int) > 0 by omega)] at hv
   exact gapZ hz hT hk (by omega) hv
  refine ⟨?_, λ h5 => ?_, λ h5 => ⟨k + 1, (HY (by omega)).symm, ⟨⟨by omega, hz, hT⟩, λ i hi => ?_⟩, by omega⟩⟩
  ·rw [ew]
   refine ⟨λ h => by omega, λ h => by omega, λ h => ⟨⟨by omega, by omega⟩, h0⟩, ?_⟩
   refine ⟨λ h => by omega, λ h => ?_, λ h => ?_⟩
   ·simp at h; omega
   ·simp at h; exact ⟨⟨by omega, by omega⟩, l3, h0⟩
  ·have hk : 0 < k := by
    rcases k with _ | k
    ·cases h5
    ·omega
   exact BWE hz hT (i := k - 1) (by omega) (by rw [hg _ h5 hk]; rfl)
  ·by_cases e : i = k
   ·subst e; exact ⟨by rw [hs]; rfl, λ hi => by rw [hg _ h5 hi]; rfl⟩
   ·exact k2 i (by omega)
 have hA : ∀ i, i < x.c.ms.length -> zh1 x i := λ i hi => k2 i (by omega)
 refine ⟨⟨0, rfl, ⟨Nat.zero_le _, hz, hT⟩, hA, λ i hi => absurd hi (Nat.not_lt_zero _)⟩, λ k ⟨⟨k1, _⟩, _, k2⟩ => ⟨λ hlt => ?_, λ hge => ?_⟩⟩
 ·have hlt : k < x.c.ns.length := by omega
  have hm := (hc.nt _ (TY hlt)).mi
  refine ⟨by omega, ⟨by omega, λ _ => by omega⟩, λ h4 => ?_, λ h4 => ⟨k + 1, (HY (by omega)).symm, ⟨⟨by omega, hz, hT⟩, hA, λ i hi => ?_⟩, by omega⟩⟩
  ·exact BPI hz hT (i := (gD x.c.ns k).mi.toNat) (by omega) (BUM hz hlt (by rw [AAW h4]; rfl))
  ·by_cases e : i = k
   ·subst e; show KT _ _ _ = true; rw [AAW h4]; rfl
   ·exact k2 i (by omega)
 ·exact BXX hz hT hA λ j hj => k2 j (by omega)
theorem BKN : AJ Try.prog ACC (C_hold.spec dCT) := XP C_hold BBR [] [] AYR (λ _ => by kernel_rfl) (λ _ => AA rA (AA AWS (AA AAG (AA BAP (AA ATY (AA AWN AC)))))) (λ x h => BSQ x h) (λ _ => YS rfl rfl) _
end Go.Bal
