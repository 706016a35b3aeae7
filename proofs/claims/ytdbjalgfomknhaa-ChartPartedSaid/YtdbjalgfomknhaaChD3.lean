/- Package chart: times. -/
import Derived.Test.YtdbjalgfomknhaaChD2
set_option linter.unusedVariables false
set_option linter.unusedSimpArgs false
namespace Go.Bal
open Go Go.Sym Go.Proofs
def AU (w : Dk) : List Span × Bool := bif stgOk w.c then (KR w (Dz w.c), (KR w (Dz w.c)).all IW) else ([], false)
def C_times : Ctr := { ro := [100, 101], α := Dk, xs := λ _ => [.bptr 100 0], L := λ w => dkL w, val := λ w => .tup [.d (AX (AU w).1), .bool (AU w).2], keep := λ w => dkK w, pre := λ w => [1 <= w.c.ms.length /\ w.c.ms.length <= 40 /\ nsIn w.c] }
def CEU : Ann := { ann 19 [(BXD, C_all.spec Z1), (BRT, C_not.spec Z1), (SS, C_nar.spec dDkS)] with E := [100, 101] }
def CET (w : Dk) : Prop := AZ Try.prog CEU BRV (AL BRV) (C_times.xs w) (AG (C_times.L w)) (C_times.val w) (C_times.keep w) [] []
abbrev KB (w : Dk) : Prop := w.c.p.lo = w.c.p.lo
abbrev KG (w : Dk) : Prop := w.c.p.hi = w.c.p.hi
abbrev dW (w : Dk) : List Mk := AE w.c.ms.length λ (i : Nat) => gD w.c.ms i
abbrev KF (w : Dk) : Nat := (dW w).length
abbrev Zo (w : Dk) : Prop := KF w = w.c.ms.length
abbrev ACD (w : Dk) (i : Nat) : Mk := gD (dW w) i
abbrev AAR (w : Dk) (i : Nat) : Int := (ACD w i).pl
abbrev Y9 (w : Dk) (i : Nat) : Int := (ACD w i).ht
abbrev cN (w : Dk) : Prop := ∀ (i : Nat), i < KF w -> AAR w i = (gD w.c.ms i).pl /\ Y9 w i = (gD w.c.ms i).ht
abbrev RO (w : Dk) : List Nt := AE w.c.ns.length λ (i : Nat) => gD w.c.ns i
abbrev Gn (w : Dk) : Nat := (RO w).length
abbrev Ed (w : Dk) : Prop := Gn w = w.c.ns.length
abbrev Eu (w : Dk) (i : Nat) : Nt := gD (RO w) i
abbrev iR (w : Dk) (i : Nat) : Int := (Eu w i).mi
abbrev rI (w : Dk) (i : Nat) : Span := (Eu w i).t
abbrev oO (w : Dk) (i : Nat) : Int := (rI w i).lo
abbrev gI (w : Dk) (i : Nat) : Int := (rI w i).hi
abbrev rL (w : Dk) (i : Nat) : Span := (Eu w i).s
abbrev mO (w : Dk) (i : Nat) : Int := (rL w i).lo
abbrev jV (w : Dk) (i : Nat) : Int := (rL w i).hi
abbrev Ei (w : Dk) : Prop := ∀ (i : Nat), i < Gn w -> iR w i = (gD w.c.ns i).mi /\ oO w i = (gD w.c.ns i).t.lo /\ gI w i = (gD w.c.ns i).t.hi /\ mO w i = (gD w.c.ns i).s.lo /\
 jV w i = (gD w.c.ns i).s.hi
abbrev IK (w : Dk) : Prop := ∀ (i : Nat), i < 40 -> w.sp i = w.sp i
abbrev Fe (w : Dk) (n : Int) : Bool := hasN (RO w) n
abbrev Dx (w : Dk) : Prop := ∀ (n : Int), Fe w n = hasN w.c.ns n
abbrev IA (w : Dk) : Prop := ∀ (n : Int), w.st n = w.st n
abbrev Fm (w : Dk) (n : Int) : Nt := ntOf (RO w) n
abbrev nU (w : Dk) (n : Int) : Int := (Fm w n).mi
abbrev kN (w : Dk) (n : Int) : Span := (Fm w n).t
abbrev mQ (w : Dk) (n : Int) : Int := (kN w n).lo
abbrev nS (w : Dk) (n : Int) : Int := (kN w n).hi
abbrev hJ (w : Dk) (n : Int) : Span := (Fm w n).s
abbrev iQ (w : Dk) (n : Int) : Int := (hJ w n).lo
abbrev nT (w : Dk) (n : Int) : Int := (hJ w n).hi
abbrev Ec (w : Dk) : Prop := ∀ (n : Int), nU w n = (ntOf w.c.ns n).mi /\ mQ w n = (ntOf w.c.ns n).t.lo /\ nS w n = (ntOf w.c.ns n).t.hi /\ iQ w n = (ntOf w.c.ns n).s.lo /\ nT w
 n = (ntOf w.c.ns n).s.hi
abbrev Eb (w : Dk) : Prop := w.c.ms.length = KF w
abbrev Im (w : Dk) : Prop := ∀ (i : Nat), i < w.c.ms.length -> (gD w.c.ms i).pl = AAR w i /\ (gD w.c.ms i).ht = Y9 w i
abbrev Gj (w : Dk) : Prop := w.c.ns.length = Gn w
abbrev Is (w : Dk) : Prop := ∀ (i : Nat), i < w.c.ns.length -> (gD w.c.ns i).mi = iR w i /\ (gD w.c.ns i).t.lo = oO w i /\ (gD w.c.ns i).t.hi = gI w i /\ (gD w.c.ns i).s.lo = mO w i /\
 (gD w.c.ns i).s.hi = jV w i
abbrev Ii (w : Dk) : Prop := ∀ (n : Int), hasN w.c.ns n = Fe w n
abbrev Ga (w : Dk) : Prop := ∀ (n : Int), (ntOf w.c.ns n).mi = nU w n /\ (ntOf w.c.ns n).t.lo = mQ w n /\ (ntOf w.c.ns n).t.hi = nS w n /\ (ntOf w.c.ns n).s.lo = iQ w n /\ (ntOf w.c.ns
 n).s.hi = nT w n
abbrev sQ (w : Dk) : Prop := 1 <= KF w
abbrev oH (w : Dk) : Prop := KF w <= 40
abbrev qO (w : Dk) : Prop := sQ w /\ oH w
abbrev Fh (w : Dk) : Cht := Cht.mk w.c.p w.c.base w.c.scale w.c.off (dW w) (RO w)
abbrev nP (w : Dk) : Prop := (AU w).fst.length = 0
abbrev sN (w : Dk) : Prop := KB w /\ KG w /\ w.c.base = w.c.base /\ w.c.scale = w.c.scale /\ w.c.off = w.c.off /\ w.c.ms.length = w.c.ms.length /\ (∀ (i : Nat), i < w.c.ms.length -> (gD w.c.ms i).pl = (gD
 w.c.ms i).pl /\ (gD w.c.ms i).ht = (gD w.c.ms i).ht) /\ w.c.ns.length = w.c.ns.length /\ (∀ (i : Nat), i < w.c.ns.length -> (gD w.c.ns i).mi = (gD w.c.ns i).mi /\ (gD w.c.ns i).t.lo = (gD w.c.ns i).t.lo /\ (gD w.c.ns i).t.hi =
 (gD w.c.ns i).t.hi /\ (gD w.c.ns i).s.lo = (gD w.c.ns i).s.lo /\ (gD w.c.ns i).s.hi = (gD w.c.ns i).s.hi) /\ IK w /\ AT = AT /\ (∀ (n : Int), hasN w.c.ns n = hasN w.c.ns n) /\ IA w /\ ∀ (n : Int), (ntOf w.c.ns
 n).mi = (ntOf w.c.ns n).mi /\ (ntOf w.c.ns n).t.lo = (ntOf w.c.ns n).t.lo /\ (ntOf w.c.ns n).t.hi = (ntOf w.c.ns n).t.hi /\ (ntOf w.c.ns n).s.lo = (ntOf w.c.ns n).s.lo /\ (ntOf w.c.ns n).s.hi = (ntOf w.c.ns n).s.hi
abbrev gZ (w : Dk) : List Span := Dz (Fh w)
abbrev mX (w : Dk) : Nat := (gZ w).length
abbrev Gs (w : Dk) (i : Nat) : Span := gD (gZ w) i
abbrev Ef (w : Dk) : List Span := AE (mX w) λ (i : Nat) => Gs w i
abbrev Hz (w : Dk) : Nat := (Ef w).length
abbrev fV (w : Dk) (i : Nat) : Span := gD (Ef w) i
abbrev Fy (w : Dk) : List Span := KR (Dk.mk (Fh w) w.st w.sp) (Ef w)
abbrev fM (w : Dk) (i : Nat) : Span := gD (AU w).fst i
abbrev kS (w : Dk) (i : Nat) : Span := gD (Fy w) i
theorem CME (w : Dk) : (CET w) = ((KB w /\ KG w /\ w.c.base = w.c.base /\ w.c.scale = w.c.scale /\ w.c.off = w.c.off /\ Zo w /\ cN w /\ Ed w /\ Ei w /\ IK w /\ AT = AT
 /\ Dx w /\ IA w /\ Ec w /\ KB w /\ KG w /\ w.c.base = w.c.base /\ w.c.scale = w.c.scale /\ w.c.off = w.c.off /\ Eb w /\ Im w /\ Gj w /\ Is w /\ IK w /\ AT
 = AT /\ Ii w /\ IA w /\ Ga w /\ qO w) /\ bif !stgOk (Fh w) then nP w /\ nP w /\ (AU w).snd = false /\ sN w else (KB w /\ KG w /\ w.c.base =
 w.c.base /\ w.c.scale = w.c.scale /\ w.c.off = w.c.off /\ Zo w /\ cN w /\ Ed w /\ Ei w /\ IK w /\ AT = AT /\ Dx w /\ IA w /\ Ec w /\ KB w /\ KG w /\
 w.c.base = w.c.base /\ w.c.scale = w.c.scale /\ w.c.off = w.c.off /\ Eb w /\ Im w /\ Gj w /\ Is w /\ IK w /\ AT = AT /\ Ii w /\ IA w /\ Ga w /\ (sQ w /\
 oH w /\ ∀ (j : Int), Fe w j = true -> 0 <= j /\ j < (↑(KF w) : Int)) /\ Hz w = mX w /\ (∀ (i : Nat), i < Hz w -> (fV w i).lo = (Gs w i).lo /\ (fV w i).hi =
 (Gs w i).hi) /\ KB w /\ KG w /\ w.c.base = w.c.base /\ w.c.scale = w.c.scale /\ w.c.off = w.c.off /\ Zo w /\ cN w /\ Ed w /\ Ei w /\ IK w /\ AT = AT /\ Dx w /\
 IA w /\ Ec w /\ KB w /\ KG w /\ w.c.base = w.c.base /\ w.c.scale = w.c.scale /\ w.c.off = w.c.off /\ Eb w /\ Im w /\ Gj w /\ Is w /\ IK w /\ AT = AT /\
 Ii w /\ IA w /\ Ga w /\ Hz w = KF w /\ qO w) /\ (AU w).fst.length = (Fy w).length /\ (∀ (i : Nat), i < (AU w).fst.length -> (fM w i).lo = (kS w
 i).lo /\ (fM w i).hi = (kS w i).hi) /\ (AU w).snd = (Fy w).all IW /\ sN w) := by kernel_rfl
theorem RQ (a : CZ) : CZ.mk a.c a.z = a := rfl
theorem FF (c : Cht) : (Dz c).length = c.ms.length := rng_length _ _
theorem yM : AM Try.prog yA (C_times.spec Z1) := LF C_times (λ _ => CEU) [] [] CHP (λ _ => by kernel_rfl) (λ _ => AC BVC (AC CVG (AC CBQ AJ))) (λ (w : Dk) h => by
 obtain ⟨h1, h2, h3⟩ : 1 <= w.c.ms.length /\ w.c.ms.length <= 40 /\ nsIn w.c := h
 show CET w; rw [CME]; delta KB KG dW KF Zo ACD AAR Y9 cN RO Gn Ed Eu iR rI oO gI rL mO jV Ei IK Fe Dx IA Fm nU kN mQ nS hJ iQ nT Ec Eb Im Gj Is Ii Ga sQ oH qO Fh nP sN gZ mX Gs Ef Hz fV Fy fM kS; simp only [CC, eq_self, implies_true, forall_const, BZ, YA]
 refine ⟨⟨h1, h2⟩, λ h => ?_, λ h => ⟨⟨⟨h1, h2, h3⟩, FF _, h1, h2⟩, ?_⟩⟩
 ·unfold AU; rw [h]; exact ⟨rfl, rfl, rfl⟩
 ·unfold AU; rw [h]; exact ⟨rfl, λ _ _ => ⟨rfl, rfl⟩, rfl⟩) (λ _ => NP rfl rfl) _
def AR (a : CZ) : Int := bif AK a.c == 0 then bif okZ a then bif (AU (AI a)).2 then 0 else 6 else 2 else AK a.c
def C_rdO : Ctr := { α := CZ, xs := xCZ, val := λ a => .tup [.bptr 0 0, .d (AX (AU (AI a)).1), .d (AX (stgL a.c)), .int 0], keep := λ a => dkN (AI a), pre := λ a => [(a.c.ms.length < 4611686018427387904 /\ a.c.ns.length < 4611686018427387904 /\ a.z.length < 4611686018427387904) /\ AR a = 0] }
def C_rdX : Ctr := { α := CZ, xs := xCZ, val := λ a => .tup [.d (.v (.pointer none)), .d GA, .d GA, .int (AR a)], keep := λ _ => [], pre := λ a => [(a.c.ms.length < 4611686018427387904 /\ a.c.ns.length < 4611686018427387904 /\ a.z.length < 4611686018427387904) /\ AR a ≠ 0] }
def A_rd : Ann := ann 38 [(uU, C_beg.spec dCZ), (yA, C_times.spec Z1), (BXD, C_all.spec Z1)]
def CSO : Ann := ann 38 [(uU, C_begX.spec dCZ)]
def CUC (a : CZ) : Prop := AZ Try.prog A_rd nY (AL nY) (xCZ a) (AG []) (C_rdO.val a) (C_rdO.keep a) [(0, 2032), (1, 2033)] []
abbrev ANG (a : CZ) : List Mk := AE a.c.ms.length λ (i : Nat) => gD a.c.ms i
abbrev ANF (a : CZ) : Nat := (ANG a).length
abbrev BPY (a : CZ) (i : Nat) : Mk := gD (ANG a) i
abbrev AMZ (a : CZ) : List Nt := AE a.c.ns.length λ (i : Nat) => gD a.c.ns i
abbrev AOO (a : CZ) : Nat := (AMZ a).length
abbrev ANK (a : CZ) (i : Nat) : Nt := gD (AMZ a) i
abbrev BTH (a : CZ) (i : Nat) : Span := (ANK a i).t
abbrev BSQ (a : CZ) (i : Nat) : Span := (ANK a i).s
abbrev APK (a : CZ) : List Int := AE a.z.length λ (i : Nat) => gD a.z i
abbrev AOB (a : CZ) : Nat := (APK a).length
abbrev BGG (a : CZ) : Cht := Cht.mk a.c.p a.c.base a.c.scale a.c.off (ANG a) (AMZ a)
abbrev BDC (a : CZ) : CZ := CZ.mk (BGG a) (APK a)
abbrev YI (a : CZ) : Dk := AI (BDC a)
abbrev TQ (a : CZ) : Cht := (YI a).c
abbrev uX (a : CZ) : Span := (TQ a).p
abbrev wO (a : CZ) : Int := (uX a).lo
abbrev Vk (a : CZ) : Prop := wO a = wO a
abbrev J7 (a : CZ) : Int := (uX a).hi
abbrev Rt (a : CZ) : Prop := J7 a = J7 a
abbrev Ki (a : CZ) : Int := (TQ a).base
abbrev Jy (a : CZ) : Prop := Ki a = Ki a
abbrev Pc (a : CZ) : Int := (TQ a).scale
abbrev Pk (a : CZ) : Prop := Pc a = Pc a
abbrev Rh (a : CZ) : Int := (TQ a).off
abbrev Rf (a : CZ) : Prop := Rh a = Rh a
abbrev BBV (a : CZ) : List Mk := (TQ a).ms
abbrev YF (a : CZ) : Nat := (BBV a).length
abbrev zY (a : CZ) (i : Nat) : Mk := gD (BBV a) i
abbrev J9 (a : CZ) : List Mk := AE (YF a) λ (i : Nat) => zY a i
abbrev UL (a : CZ) : Nat := (J9 a).length
abbrev BBG (a : CZ) : Prop := UL a = YF a
abbrev BAA (a : CZ) (i : Nat) : Mk := gD (J9 a) i
abbrev BFO (a : CZ) (i : Nat) : Int := (BAA a i).pl
abbrev xB (a : CZ) (i : Nat) : Int := (zY a i).pl
abbrev BEU (a : CZ) (i : Nat) : Int := (BAA a i).ht
abbrev D1 (a : CZ) (i : Nat) : Int := (zY a i).ht
abbrev BGY (a : CZ) : Prop := ∀ (i : Nat), i < UL a -> BFO a i = xB a i /\ BEU a i = D1 a i
abbrev Pd (a : CZ) : List Nt := (TQ a).ns
abbrev At (a : CZ) : Nat := (Pd a).length
abbrev Tl (a : CZ) (i : Nat) : Nt := gD (Pd a) i
abbrev Ch (a : CZ) : List Nt := AE (At a) λ (i : Nat) => Tl a i
abbrev wS (a : CZ) : Nat := (Ch a).length
abbrev BHK (a : CZ) : Prop := wS a = At a
abbrev vR (a : CZ) (i : Nat) : Nt := gD (Ch a) i
abbrev AXF (a : CZ) (i : Nat) : Int := (vR a i).mi
abbrev tN (a : CZ) (i : Nat) : Int := (Tl a i).mi
abbrev AZX (a : CZ) (i : Nat) : Span := (vR a i).t
abbrev ARD (a : CZ) (i : Nat) : Int := (AZX a i).lo
abbrev ASJ (a : CZ) (i : Nat) : Span := (Tl a i).t
abbrev zD (a : CZ) (i : Nat) : Int := (ASJ a i).lo
abbrev AZL (a : CZ) (i : Nat) : Int := (AZX a i).hi
abbrev yT (a : CZ) (i : Nat) : Int := (ASJ a i).hi
abbrev AYZ (a : CZ) (i : Nat) : Span := (vR a i).s
abbrev AUP (a : CZ) (i : Nat) : Int := (AYZ a i).lo
abbrev BFN (a : CZ) (i : Nat) : Span := (Tl a i).s
abbrev vW (a : CZ) (i : Nat) : Int := (BFN a i).lo
abbrev AUD (a : CZ) (i : Nat) : Int := (AYZ a i).hi
abbrev I5 (a : CZ) (i : Nat) : Int := (BFN a i).hi
abbrev BEX (a : CZ) : Prop := ∀ (i : Nat), i < wS a -> AXF a i = tN a i /\ ARD a i = zD a i /\ AZL a i = yT a i /\ AUP a i = vW a i /\ AUD a i = I5 a i
abbrev vK (a : CZ) (i : Nat) : Bool := (YI a).sp i
abbrev Ms (a : CZ) : Prop := ∀ (i : Nat), i < (40 : Nat) -> vK a i = vK a i
abbrev zO (a : CZ) (n : Int) : Bool := hasN (Ch a) n
abbrev J4 (a : CZ) (n : Int) : Bool := hasN (Pd a) n
abbrev AVI (a : CZ) : Prop := ∀ (n : Int), zO a n = J4 a n
abbrev vL (a : CZ) (n : Int) : Int := (YI a).st n
abbrev Tz (a : CZ) : Prop := ∀ (n : Int), vL a n = vL a n
abbrev N4 (a : CZ) (n : Int) : Nt := ntOf (Ch a) n
abbrev BBD (a : CZ) (n : Int) : Int := (N4 a n).mi
abbrev uR (a : CZ) (n : Int) : Nt := ntOf (Pd a) n
abbrev tV (a : CZ) (n : Int) : Int := (uR a n).mi
abbrev AQW (a : CZ) (n : Int) : Span := (N4 a n).t
abbrev BCU (a : CZ) (n : Int) : Int := (AQW a n).lo
abbrev AXT (a : CZ) (n : Int) : Span := (uR a n).t
abbrev G6 (a : CZ) (n : Int) : Int := (AXT a n).lo
abbrev BEM (a : CZ) (n : Int) : Int := (AQW a n).hi
abbrev vJ (a : CZ) (n : Int) : Int := (AXT a n).hi
abbrev BEN (a : CZ) (n : Int) : Span := (N4 a n).s
abbrev AQT (a : CZ) (n : Int) : Int := (BEN a n).lo
abbrev ASH (a : CZ) (n : Int) : Span := (uR a n).s
abbrev D5 (a : CZ) (n : Int) : Int := (ASH a n).lo
abbrev APQ (a : CZ) (n : Int) : Int := (BEN a n).hi
abbrev wM (a : CZ) (n : Int) : Int := (ASH a n).hi
abbrev BHW (a : CZ) : Prop := ∀ (n : Int), BBD a n = tV a n /\ BCU a n = G6 a n /\ BEM a n = vJ a n /\ AQT a n = D5 a n /\ APQ a n = wM a n
abbrev AVB (a : CZ) : Prop := YF a = UL a
abbrev ASP (a : CZ) : Prop := ∀ (i : Nat), i < YF a -> xB a i = BFO a i /\ D1 a i = BEU a i
abbrev BIV (a : CZ) : Prop := At a = wS a
abbrev AZS (a : CZ) : Prop := ∀ (i : Nat), i < At a -> tN a i = AXF a i /\ zD a i = ARD a i /\ yT a i = AZL a i /\ vW a i = AUP a i /\ I5 a i = AUD a i
abbrev AWP (a : CZ) : Prop := ∀ (n : Int), J4 a n = zO a n
abbrev AVQ (a : CZ) : Prop := ∀ (n : Int), tV a n = BBD a n /\ G6 a n = BCU a n /\ vJ a n = BEM a n /\ D5 a n = AQT a n /\ wM a n = APQ a n
abbrev APV (a : CZ) : Prop := (1 : Nat) <= UL a
abbrev ARN (a : CZ) : Prop := UL a <= (40 : Nat)
abbrev AZC (a : CZ) : Cht := Cht.mk (uX a) (Ki a) (Pc a) (Rh a) (J9 a) (Ch a)
abbrev AUQ (a : CZ) : List Span × Bool := AU (Dk.mk (AZC a) (YI a).st (YI a).sp)
abbrev ASO (a : CZ) : List Span := (AUQ a).fst
abbrev AXK (a : CZ) (i : Nat) : Span := gD (AU (AI a)).fst i
abbrev BCV (a : CZ) (i : Nat) : Span := gD (ASO a) i
abbrev ATM (a : CZ) : List Span := stgL (AZC a)
abbrev BCN (a : CZ) (i : Nat) : Span := gD (ATM a) i
theorem CWB (a : CZ) : (CUC a) = ((a.c.p.lo = a.c.p.lo /\ a.c.p.hi = a.c.p.hi /\ a.c.base = a.c.base /\ a.c.scale = a.c.scale /\ a.c.off = a.c.off /\ ANF a = a.c.ms.length /\ (∀ (i : Nat), i < ANF a -> (BPY a
 i).pl = (gD a.c.ms i).pl /\ (BPY a i).ht = (gD a.c.ms i).ht) /\ AOO a = a.c.ns.length /\ (∀ (i : Nat), i < AOO a -> (ANK a i).mi = (gD a.c.ns i).mi /\ (BTH a i).lo = (gD a.c.ns i).t.lo /\ (BTH a i).hi =
 (gD a.c.ns i).t.hi /\ (BSQ a i).lo = (gD a.c.ns i).s.lo /\ (BSQ a i).hi = (gD a.c.ns i).s.hi) /\ AOB a = a.z.length /\ (∀ (i : Nat), i < AOB a -> gD (APK a) i = gD a.z i) /\ (ANF a <
 (4611686018427387904 : Nat) /\ AOO a < (4611686018427387904 : Nat) /\ AOB a < (4611686018427387904 : Nat)) /\ AK (BGG a) = (0 : Int)) /\ bif Bh (BDC a) != (0 : Int) then False else (Vk a /\
 Rt a /\ Jy a /\ Pk a /\ Rf a /\ BBG a /\ BGY a /\ BHK a /\ BEX a /\ Ms a /\ AT = AT /\ AVI a /\ Tz a /\ BHW a /\ Vk a /\ Rt a /\ Jy a /\ Pk a /\
 Rf a /\ AVB a /\ ASP a /\ BIV a /\ AZS a /\ Ms a /\ AT = AT /\ AWP a /\ Tz a /\ AVQ a /\ APV a /\ ARN a /\ ∀ (j : Int), zO a j = true -> (0 : Int) <= j /\ j <
 (↑(UL a) : Int)) /\ bif !(AUQ a).snd then False else (Vk a /\ Rt a /\ Jy a /\ Pk a /\ Rf a /\ BBG a /\ BGY a /\ BHK a /\ BEX a /\ Ms a /\ AT = AT /\ AVI a /\
 Tz a /\ BHW a /\ Vk a /\ Rt a /\ Jy a /\ Pk a /\ Rf a /\ AVB a /\ ASP a /\ BIV a /\ AZS a /\ Ms a /\ AT = AT /\ AWP a /\ Tz a /\ AVQ a /\ APV a /\
 ARN a) /\ (AU (AI a)).fst.length = (ASO a).length /\ (∀ (i : Nat), i < (AU (AI a)).fst.length -> (AXK a i).lo = (BCV a i).lo /\ (AXK a i).hi = (BCV a i).hi) /\ (stgL a.c).length =
 (ATM a).length /\ (∀ (i : Nat), i < (stgL a.c).length -> (gD (stgL a.c) i).lo = (BCN a i).lo /\ (gD (stgL a.c) i).hi = (BCN a i).hi) /\ Int.ofNat (0 : Nat) = Int.ofNat (0 : Nat) /\ (AI a).c.p.lo = wO a
 /\ (AI a).c.p.hi = J7 a /\ (AI a).c.base = Ki a /\ (AI a).c.scale = Pc a /\ (AI a).c.off = Rh a /\ (AI a).c.ms.length = YF a /\ (∀ (i : Nat), i < (AI a).c.ms.length -> (gD (AI a).c.ms
 i).pl = xB a i /\ (gD (AI a).c.ms i).ht = D1 a i) /\ (AI a).c.ns.length = At a /\ (∀ (i : Nat), i < (AI a).c.ns.length -> (gD (AI a).c.ns i).mi = tN a i /\ (gD (AI a).c.ns i).t.lo = zD
 a i /\ (gD (AI a).c.ns i).t.hi = yT a i /\ (gD (AI a).c.ns i).s.lo = vW a i /\ (gD (AI a).c.ns i).s.hi = I5 a i) /\ (∀ (i : Nat), i < (40 : Nat) -> (AI a).sp i = vK a i) /\ AT = AT /\ (∀ (n :
 Int), hasN (AI a).c.ns n = J4 a n) /\ (∀ (n : Int), (AI a).st n = vL a n) /\ ∀ (n : Int), (ntOf (AI a).c.ns n).mi = tV a n /\ (ntOf (AI a).c.ns n).t.lo = G6 a n /\ (ntOf (AI a).c.ns n).t.hi
 = vJ a n /\ (ntOf (AI a).c.ns n).s.lo = D5 a n /\ (ntOf (AI a).c.ns n).s.hi = wM a n) := by kernel_rfl
def CKY (a : CZ) : Prop := AZ Try.prog A_rd nY (AL nY) (xCZ a) (AG []) (C_rdX.val a) [] [] []
abbrev G4 (a : CZ) : List Mk := AE a.c.ms.length λ (i : Nat) => gD a.c.ms i
abbrev F2 (a : CZ) : Nat := (G4 a).length
abbrev ATX (a : CZ) (i : Nat) : Mk := gD (G4 a) i
abbrev zM (a : CZ) : List Nt := AE a.c.ns.length λ (i : Nat) => gD a.c.ns i
abbrev zT (a : CZ) : Nat := (zM a).length
abbrev zR (a : CZ) (i : Nat) : Nt := gD (zM a) i
abbrev BEV (a : CZ) (i : Nat) : Span := (zR a i).t
abbrev BBO (a : CZ) (i : Nat) : Span := (zR a i).s
abbrev xW (a : CZ) : List Int := AE a.z.length λ (i : Nat) => gD a.z i
abbrev vS (a : CZ) : Nat := (xW a).length
abbrev AJP (a : CZ) : Cht := Cht.mk a.c.p a.c.base a.c.scale a.c.off (G4 a) (zM a)
abbrev X1 (a : CZ) : CZ := CZ.mk (AJP a) (xW a)
abbrev AAN (a : CZ) : Int := Bh (X1 a)
abbrev Ak : Prop := 0 = 0
abbrev YD : Prop := ∀ (i : Nat), i < 0 -> false = false
abbrev RM (a : CZ) : Dk := AI (X1 a)
abbrev ML (a : CZ) : Cht := (RM a).c
abbrev cM (a : CZ) : Span := (ML a).p
abbrev AGR (a : CZ) : Int := (cM a).lo
abbrev Cb (a : CZ) : Prop := AGR a = AGR a
abbrev P4 (a : CZ) : Int := (cM a).hi
abbrev Ay (a : CZ) : Prop := P4 a = P4 a
abbrev aW (a : CZ) : Int := (ML a).base
abbrev Am (a : CZ) : Prop := aW a = aW a
abbrev Xx (a : CZ) : Int := (ML a).scale
abbrev YW (a : CZ) : Prop := Xx a = Xx a
abbrev Zj (a : CZ) : Int := (ML a).off
abbrev YH (a : CZ) : Prop := Zj a = Zj a
abbrev U0 (a : CZ) : List Mk := (ML a).ms
abbrev ZQ (a : CZ) : Nat := (U0 a).length
abbrev Yf (a : CZ) (i : Nat) : Mk := gD (U0 a) i
abbrev Ze (a : CZ) : List Mk := AE (ZQ a) λ (i : Nat) => Yf a i
abbrev LR (a : CZ) : Nat := (Ze a).length
abbrev V8 (a : CZ) : Prop := LR a = ZQ a
abbrev R1 (a : CZ) (i : Nat) : Mk := gD (Ze a) i
abbrev AKO (a : CZ) (i : Nat) : Int := (R1 a i).pl
abbrev AGU (a : CZ) (i : Nat) : Int := (Yf a i).pl
abbrev AJY (a : CZ) (i : Nat) : Int := (R1 a i).ht
abbrev AGT (a : CZ) (i : Nat) : Int := (Yf a i).ht
abbrev AJU (a : CZ) : Prop := ∀ (i : Nat), i < LR a -> AKO a i = AGU a i /\ AJY a i = AGT a i
abbrev ZP (a : CZ) : List Nt := (ML a).ns
abbrev Bu (a : CZ) : Nat := (ZP a).length
abbrev ZH (a : CZ) (i : Nat) : Nt := gD (ZP a) i
abbrev QA (a : CZ) : List Nt := AE (Bu a) λ (i : Nat) => ZH a i
abbrev bU (a : CZ) : Nat := (QA a).length
abbrev Z9 (a : CZ) : Prop := bU a = Bu a
abbrev Zy (a : CZ) (i : Nat) : Nt := gD (QA a) i
abbrev ABC (a : CZ) (i : Nat) : Int := (Zy a i).mi
abbrev ABX (a : CZ) (i : Nat) : Int := (ZH a i).mi
abbrev AHX (a : CZ) (i : Nat) : Span := (Zy a i).t
abbrev AJM (a : CZ) (i : Nat) : Int := (AHX a i).lo
abbrev AJW (a : CZ) (i : Nat) : Span := (ZH a i).t
abbrev V0 (a : CZ) (i : Nat) : Int := (AJW a i).lo
abbrev ACZ (a : CZ) (i : Nat) : Int := (AHX a i).hi
abbrev AJJ (a : CZ) (i : Nat) : Int := (AJW a i).hi
abbrev AEO (a : CZ) (i : Nat) : Span := (Zy a i).s
abbrev AFW (a : CZ) (i : Nat) : Int := (AEO a i).lo
abbrev AJL (a : CZ) (i : Nat) : Span := (ZH a i).s
abbrev Q8 (a : CZ) (i : Nat) : Int := (AJL a i).lo
abbrev AAE (a : CZ) (i : Nat) : Int := (AEO a i).hi
abbrev AAC (a : CZ) (i : Nat) : Int := (AJL a i).hi
abbrev AJA (a : CZ) : Prop := ∀ (i : Nat), i < bU a -> ABC a i = ABX a i /\ AJM a i = V0 a i /\ ACZ a i = AJJ a i /\ AFW a i = Q8 a i /\ AAE a i = AAC
 a i
abbrev AGQ (a : CZ) (i : Nat) : Bool := (RM a).sp i
abbrev Cy (a : CZ) : Prop := ∀ (i : Nat), i < 40 -> AGQ a i = AGQ a i
abbrev aU (a : CZ) (n : Int) : Bool := hasN (QA a) n
abbrev AEK (a : CZ) (n : Int) : Bool := hasN (ZP a) n
abbrev T7 (a : CZ) : Prop := ∀ (n : Int), aU a n = AEK a n
abbrev O2 (a : CZ) (n : Int) : Int := (RM a).st n
abbrev YX (a : CZ) : Prop := ∀ (n : Int), O2 a n = O2 a n
abbrev Zz (a : CZ) (n : Int) : Nt := ntOf (QA a) n
abbrev U3 (a : CZ) (n : Int) : Int := (Zz a n).mi
abbrev aR (a : CZ) (n : Int) : Nt := ntOf (ZP a) n
abbrev ADI (a : CZ) (n : Int) : Int := (aR a n).mi
abbrev AIL (a : CZ) (n : Int) : Span := (Zz a n).t
abbrev ABT (a : CZ) (n : Int) : Int := (AIL a n).lo
abbrev ABI (a : CZ) (n : Int) : Span := (aR a n).t
abbrev AGP (a : CZ) (n : Int) : Int := (ABI a n).lo
abbrev ACN (a : CZ) (n : Int) : Int := (AIL a n).hi
abbrev ACB (a : CZ) (n : Int) : Int := (ABI a n).hi
abbrev AKD (a : CZ) (n : Int) : Span := (Zz a n).s
abbrev AFK (a : CZ) (n : Int) : Int := (AKD a n).lo
abbrev AAD (a : CZ) (n : Int) : Span := (aR a n).s
abbrev AEU (a : CZ) (n : Int) : Int := (AAD a n).lo
abbrev V7 (a : CZ) (n : Int) : Int := (AKD a n).hi
abbrev ACP (a : CZ) (n : Int) : Int := (AAD a n).hi
abbrev AKQ (a : CZ) : Prop := ∀ (n : Int), U3 a n = ADI a n /\ ABT a n = AGP a n /\ ACN a n = ACB a n /\ AFK a n = AEU a n /\ V7 a n = ACP a n
abbrev Y3 (a : CZ) : Prop := ZQ a = LR a
abbrev R5 (a : CZ) : Prop := ∀ (i : Nat), i < ZQ a -> AGU a i = AKO a i /\ AGT a i = AJY a i
abbrev AAJ (a : CZ) : Prop := Bu a = bU a
abbrev Q2 (a : CZ) : Prop := ∀ (i : Nat), i < Bu a -> ABX a i = ABC a i /\ V0 a i = AJM a i /\ AJJ a i = ACZ a i /\ Q8 a i = AFW a i /\ AAC a i = AAE
 a i
abbrev AFU (a : CZ) : Prop := ∀ (n : Int), AEK a n = aU a n
abbrev ALE (a : CZ) : Prop := ∀ (n : Int), ADI a n = U3 a n /\ AGP a n = ABT a n /\ ACB a n = ACN a n /\ AEU a n = AFK a n /\ ACP a n = V7 a n
abbrev W6 (a : CZ) : Prop := 1 <= LR a
abbrev AKR (a : CZ) : Prop := LR a <= 40
theorem CRM (a : CZ) : (CKY a) = ((a.c.p.lo = a.c.p.lo /\ a.c.p.hi = a.c.p.hi /\ a.c.base = a.c.base /\ a.c.scale = a.c.scale /\ a.c.off = a.c.off /\ F2 a = a.c.ms.length /\ (∀ (i : Nat), i < F2 a ->
 (ATX a i).pl = (gD a.c.ms i).pl /\ (ATX a i).ht = (gD a.c.ms i).ht) /\ zT a = a.c.ns.length /\ (∀ (i : Nat), i < zT a -> (zR a i).mi = (gD a.c.ns i).mi /\ (BEV a i).lo = (gD a.c.ns i).t.lo /\
 (BEV a i).hi = (gD a.c.ns i).t.hi /\ (BBO a i).lo = (gD a.c.ns i).s.lo /\ (BBO a i).hi = (gD a.c.ns i).s.hi) /\ vS a = a.z.length /\ (∀ (i : Nat), i < vS a -> gD (xW a) i = gD a.z i) /\
 (F2 a < 4611686018427387904 /\ zT a < 4611686018427387904 /\ vS a < 4611686018427387904) /\ AK (AJP a) = 0) /\ bif AAN a != 0 then Value.pointer none = Value.pointer none /\ Ak /\
 YD /\ Ak /\ YD /\ AR a = AAN a else (Cb a /\ Ay a /\ Am a /\ YW a /\ YH a /\ V8 a /\ AJU a /\ Z9 a /\ AJA a /\ Cy a /\ AT = AT /\
 T7 a /\ YX a /\ AKQ a /\ Cb a /\ Ay a /\ Am a /\ YW a /\ YH a /\ Y3 a /\ R5 a /\ AAJ a /\ Q2 a /\ Cy a /\ AT = AT /\ AFU a /\ YX a
 /\ ALE a /\ W6 a /\ AKR a /\ ∀ (j : Int), aU a j = true -> 0 <= j /\ j < (↑(LR a) : Int)) /\ bif !(AU (Dk.mk (Cht.mk (cM a) (aW a) (Xx a) (Zj a) (Ze a)
 (QA a)) (RM a).st (RM a).sp)).snd then Value.pointer none = Value.pointer none /\ Ak /\ YD /\ Ak /\ YD /\ AR a = 6 else (Cb a /\ Ay a /\ Am a /\ YW
 a /\ YH a /\ V8 a /\ AJU a /\ Z9 a /\ AJA a /\ Cy a /\ AT = AT /\ T7 a /\ YX a /\ AKQ a /\ Cb a /\ Ay a /\ Am a /\ YW a /\ YH a /\
 Y3 a /\ R5 a /\ AAJ a /\ Q2 a /\ Cy a /\ AT = AT /\ AFU a /\ YX a /\ ALE a /\ W6 a /\ AKR a) /\ False) := by kernel_rfl
def CJT (a : CZ) : Prop := AZ Try.prog CSO nY (AL nY) (xCZ a) (AG []) (C_rdX.val a) [] [] []
theorem CPT (a : CZ) : (CJT a) = ((a.c.p.lo = a.c.p.lo /\ a.c.p.hi = a.c.p.hi /\ a.c.base = a.c.base /\ a.c.scale = a.c.scale /\ a.c.off = a.c.off /\ (AE a.c.ms.length λ (i : Nat) => gD a.c.ms i).length =
 a.c.ms.length /\ (∀ (i : Nat), i < (AE a.c.ms.length λ (i : Nat) => gD a.c.ms i).length -> (gD (AE a.c.ms.length λ (i : Nat) => gD a.c.ms i) i).pl = (gD a.c.ms i).pl /\ (gD (AE a.c.ms.length λ (i : Nat) => gD
 a.c.ms i) i).ht = (gD a.c.ms i).ht) /\ (AE a.c.ns.length λ (i : Nat) => gD a.c.ns i).length = a.c.ns.length /\ (∀ (i : Nat), i < (AE a.c.ns.length λ (i : Nat) => gD a.c.ns i).length -> (gD (AE a.c.ns.length λ (i :
 Nat) => gD a.c.ns i) i).mi = (gD a.c.ns i).mi /\ (gD (AE a.c.ns.length λ (i : Nat) => gD a.c.ns i) i).t.lo = (gD a.c.ns i).t.lo /\ (gD (AE a.c.ns.length λ (i : Nat) => gD a.c.ns i) i).t.hi = (gD a.c.ns i).t.hi /\ (gD
 (AE a.c.ns.length λ (i : Nat) => gD a.c.ns i) i).s.lo = (gD a.c.ns i).s.lo /\ (gD (AE a.c.ns.length λ (i : Nat) => gD a.c.ns i) i).s.hi = (gD a.c.ns i).s.hi) /\ (AE a.z.length λ (i : Nat) => gD a.z i).length =
 a.z.length /\ (∀ (i : Nat), i < (AE a.z.length λ (i : Nat) => gD a.z i).length -> gD (AE a.z.length λ (i : Nat) => gD a.z i) i = gD a.z i) /\ ((AE a.c.ms.length λ (i : Nat) => gD a.c.ms i).length <
 4611686018427387904 /\ (AE a.c.ns.length λ (i : Nat) => gD a.c.ns i).length < 4611686018427387904 /\ (AE a.z.length λ (i : Nat) => gD a.z i).length < 4611686018427387904) /\ AK (Cht.mk a.c.p a.c.base a.c.scale
 a.c.off (AE a.c.ms.length λ (i : Nat) => gD a.c.ms i) (AE a.c.ns.length λ (i : Nat) => gD a.c.ns i)) ≠ 0) /\ bif Bh (CZ.mk (Cht.mk a.c.p a.c.base a.c.scale a.c.off (AE a.c.ms.length λ (i : Nat) => gD a.c.ms i)
 (AE a.c.ns.length λ (i : Nat) => gD a.c.ns i)) (AE a.z.length λ (i : Nat) => gD a.z i)) != 0 then Value.pointer none = Value.pointer none /\ 0 = 0 /\ (∀ (i : Nat), i < 0 -> false = false) /\ 0 = 0 /\ (∀ (i : Nat), i < 0
 -> false = false) /\ AR a = Bh (CZ.mk (Cht.mk a.c.p a.c.base a.c.scale a.c.off (AE a.c.ms.length λ (i : Nat) => gD a.c.ms i) (AE a.c.ns.length λ (i : Nat) => gD a.c.ns i)) (AE a.z.length λ (i : Nat) => gD a.z
 i)) else False) := by kernel_rfl
theorem Vj (a : CZ) : Dk.mk a.c (AI a).st (AI a).sp = AI a := rfl
theorem Xf {c : Cht} (h : AK c = 0) : nsIn c /\ ∀ n ∈ c.ns, CM n c.ms.length = true := by
 obtain ⟨h1, ⟨h2, h3⟩, h4⟩ := ES h
 have hr : c.ns.all (λ n => CM n c.ms.length) = true := by
  cases hq : c.ns.all (λ n => CM n c.ms.length) with
  | true => rfl
  | false =>
   unfold AK at h
   rw [h1, hq] at h
   cases hm : (mkC (-1) c.ms != 0) with
   | true =>
    rw [hm] at h
    have h : mkC (-1) c.ms = 0 := h
    rw [h] at hm; cases hm
   | false => rw [hm] at h; cases h
 refine ⟨λ j hj => ?_, λ n hn => List.all_eq_true.1 hr n hn⟩
 unfold hasN at hj
 obtain ⟨x, hx, e⟩ := List.any_eq_true.1 hj
 have e : x.mi = j := by simpa using e
 have := List.all_eq_true.1 hr x hx
 unfold CM HG wr at this
 rw [FH (by omega) (by omega)] at this
 simp only [Bool.and_eq_true, decide_eq_true_eq] at this
 omega
theorem Fi {a : CZ} (h : AR a = 0) : AK a.c = 0 /\ okZ a = true /\ (AU (AI a)).2 = true := by
 unfold AR at h
 cases h1 : (AK a.c == 0) with
 | false => rw [h1] at h; have h : AK a.c = 0 := h; rw [h] at h1; cases h1
 | true =>
  rw [h1] at h
  cases h2 : okZ a with
  | false => rw [h2] at h; cases h
  | true =>
   rw [h2] at h
   cases h3 : (AU (AI a)).2 with
   | false => rw [h3] at h; cases h
   | true => exact ⟨by simpa using h1, rfl, rfl⟩
theorem BUX : AM Try.prog RX (C_rdO.spec dCZ) := LF C_rdO (λ _ => A_rd) [(0, 2032), (1, 2033)] [] BVL (λ _ => by kernel_rfl) (λ _ => AC CMO (AC yM (AC BVC AJ))) (λ (a : CZ) h => by
 obtain ⟨h1, h2⟩ : (a.c.ms.length < 4611686018427387904 /\ a.c.ns.length < 4611686018427387904 /\ a.z.length < 4611686018427387904) /\ AR a = 0 := h
 obtain ⟨c0, c1, c2⟩ := Fi h2
 have e : Bh a = 0 := by unfold Bh; rw [c0, c1]; rfl
 have hl := ES c0
 have hn := (Xf c0).1
 show CUC a; rw [CWB]; delta ANG ANF BPY AMZ AOO ANK BTH BSQ APK AOB BGG BDC YI TQ uX wO Vk J7 Rt Ki Jy Pc Pk Rh Rf BBV YF zY J9 UL BBG BAA BFO xB BEU D1 BGY Pd At Tl Ch wS BHK vR AXF tN AZX ARD ASJ zD AZL yT AYZ AUP BFN vW AUD I5 BEX vK Ms zO J4 AVI vL Tz N4 BBD uR tV AQW BCU AXT G6 BEM vJ BEN AQT ASH D5 APQ wM BHW AVB ASP BIV AZS AWP AVQ APV ARN AZC AUQ ASO AXK BCV ATM BCN; simp only [CC, eq_self, implies_true, forall_const, BZ, YA, Kh, RQ, Vj, e, c2]
 exact ⟨⟨h1, c0⟩, (λ h => by simp at h), λ _ => ⟨⟨by omega, by omega, hn⟩, (λ h => by cases h), by omega, by omega⟩⟩) (λ _ => NP rfl rfl) _
theorem BSC : AM Try.prog RX (C_rdX.spec dCZ) := okT C_rdX (λ (a : CZ) h => by
 obtain ⟨h1, h2⟩ : (a.c.ms.length < 4611686018427387904 /\ a.c.ns.length < 4611686018427387904 /\ a.z.length < 4611686018427387904) /\ AR a ≠ 0 := h
 by_cases c0 : AK a.c = 0
 ·have e : Bh a = bif okZ a then 0 else 2 := by unfold Bh; rw [c0]; rfl
  have e2 : AR a = bif okZ a then bif (AU (AI a)).2 then 0 else 6 else 2 := by unfold AR; rw [c0]; rfl
  have hl := ES c0
  have hn := (Xf c0).1
  refine UO (A := A_rd) (L := []) (keep := []) (ren := []) (fz := []) BVL (by kernel_rfl) (AC CMO (AC yM (AC BVC AJ))) ?_
  show CKY a; rw [CRM]; delta G4 F2 ATX zM zT zR BEV BBO xW vS AJP X1 AAN Ak YD RM ML cM AGR Cb P4 Ay aW Am Xx YW Zj YH U0 ZQ Yf Ze LR V8 R1 AKO AGU AJY AGT AJU ZP Bu ZH QA bU Z9 Zy ABC ABX AHX AJM AJW V0 ACZ AJJ AEO AFW AJL Q8 AAE AAC AJA AGQ Cy aU AEK T7 O2 YX Zz U3 aR ADI AIL ABT ABI AGP ACN ACB AKD AFK AAD AEU V7 ACP AKQ Y3 R5 AAJ Q2 AFU ALE W6 AKR; simp only [CC, eq_self, implies_true, forall_const, BZ, YA, Kh, RQ, Vj, e]
  rw [e2] at h2 ⊢
  refine ⟨⟨h1, c0⟩, ?_⟩
  cases ho : okZ a with
  | false => exact ⟨λ _ => rfl, λ h => by simp at h⟩
  | true =>
   rw [ho] at h2
   cases hq : (AU (AI a)).2 with
   | false => exact ⟨λ h => by simp at h, λ _ => ⟨⟨by omega, by omega, hn⟩, λ _ => rfl, λ h => by cases h⟩⟩
   | true => rw [hq] at h2; exact absurd rfl h2
 ·have c0' : (AK a.c == 0) = false := by simpa using c0
  have e : Bh a = AK a.c := by unfold Bh; rw [c0']; rfl
  have e2 : AR a = AK a.c := by unfold AR; rw [c0']; rfl
  refine UO (A := CSO) (L := []) (keep := []) (ren := []) (fz := []) BVL (by kernel_rfl) (AC CPG AJ) ?_
  show CJT a; rw [CPT]; simp only [CC, eq_self, implies_true, forall_const, BZ, RQ, e, e2]
  simp [h1, c0]) _
def Ci (a : CZ) : List Span × Int := bif AR a == 0 then ((AU (AI a)).1, 0) else ([], AR a)
def C_Times : Ctr := { α := CZ, xs := xCZ, val := λ a => .tup [.d (AX (Ci a).1), .int (Ci a).2], keep := λ _ => [], pre := λ a => [a.c.ms.length < 4611686018427387904 /\ a.c.ns.length < 4611686018427387904 /\ a.z.length < 4611686018427387904] }
def CSW : Ann := ann 20 [(RX, C_rdO.spec dCZ)]
def CTL : Ann := ann 20 [(RX, C_rdX.spec dCZ)]
def CRS (a : CZ) : Prop := AZ Try.prog CSW vG (AL vG) (xCZ a) (AG []) (.tup [.d (AX (AU (AI a)).1), .int 0]) [] [] []
theorem CWD (a : CZ) : (CRS a) = ((a.c.p.lo = a.c.p.lo /\ a.c.p.hi = a.c.p.hi /\ a.c.base = a.c.base /\ a.c.scale = a.c.scale /\ a.c.off = a.c.off /\ (AE a.c.ms.length λ (i : Nat) => gD a.c.ms i).length =
 a.c.ms.length /\ (∀ (i : Nat), i < (AE a.c.ms.length λ (i : Nat) => gD a.c.ms i).length -> (gD (AE a.c.ms.length λ (i : Nat) => gD a.c.ms i) i).pl = (gD a.c.ms i).pl /\ (gD (AE a.c.ms.length λ (i : Nat) => gD
 a.c.ms i) i).ht = (gD a.c.ms i).ht) /\ (AE a.c.ns.length λ (i : Nat) => gD a.c.ns i).length = a.c.ns.length /\ (∀ (i : Nat), i < (AE a.c.ns.length λ (i : Nat) => gD a.c.ns i).length -> (gD (AE a.c.ns.length λ (i :
 Nat) => gD a.c.ns i) i).mi = (gD a.c.ns i).mi /\ (gD (AE a.c.ns.length λ (i : Nat) => gD a.c.ns i) i).t.lo = (gD a.c.ns i).t.lo /\ (gD (AE a.c.ns.length λ (i : Nat) => gD a.c.ns i) i).t.hi = (gD a.c.ns i).t.hi /\ (gD
 (AE a.c.ns.length λ (i : Nat) => gD a.c.ns i) i).s.lo = (gD a.c.ns i).s.lo /\ (gD (AE a.c.ns.length λ (i : Nat) => gD a.c.ns i) i).s.hi = (gD a.c.ns i).s.hi) /\ (AE a.z.length λ (i : Nat) => gD a.z i).length =
 a.z.length /\ (∀ (i : Nat), i < (AE a.z.length λ (i : Nat) => gD a.z i).length -> gD (AE a.z.length λ (i : Nat) => gD a.z i) i = gD a.z i) /\ ((AE a.c.ms.length λ (i : Nat) => gD a.c.ms i).length <
 (4611686018427387904 : Nat) /\ (AE a.c.ns.length λ (i : Nat) => gD a.c.ns i).length < (4611686018427387904 : Nat) /\ (AE a.z.length λ (i : Nat) => gD a.z i).length < (4611686018427387904 : Nat)) /\ AR (CZ.mk
 (Cht.mk a.c.p a.c.base a.c.scale a.c.off (AE a.c.ms.length λ (i : Nat) => gD a.c.ms i) (AE a.c.ns.length λ (i : Nat) => gD a.c.ns i)) (AE a.z.length λ (i : Nat) => gD a.z i)) = (0 : Int)) /\ (AU (AI
 a)).fst.length = (AU (AI (CZ.mk (Cht.mk a.c.p a.c.base a.c.scale a.c.off (AE a.c.ms.length λ (i : Nat) => gD a.c.ms i) (AE a.c.ns.length λ (i : Nat) => gD a.c.ns i)) (AE a.z.length λ (i : Nat) => gD a.z
 i)))).fst.length /\ (∀ (i : Nat), i < (AU (AI a)).fst.length -> (gD (AU (AI a)).fst i).lo = (gD (AU (AI (CZ.mk (Cht.mk a.c.p a.c.base a.c.scale a.c.off (AE a.c.ms.length λ (i : Nat) => gD a.c.ms i)
 (AE a.c.ns.length λ (i : Nat) => gD a.c.ns i)) (AE a.z.length λ (i : Nat) => gD a.z i)))).fst i).lo /\ (gD (AU (AI a)).fst i).hi = (gD (AU (AI (CZ.mk (Cht.mk a.c.p a.c.base a.c.scale a.c.off (AE
 a.c.ms.length λ (i : Nat) => gD a.c.ms i) (AE a.c.ns.length λ (i : Nat) => gD a.c.ns i)) (AE a.z.length λ (i : Nat) => gD a.z i)))).fst i).hi) /\ Int.ofNat (0 : Nat) = Int.ofNat (0 : Nat)) := by kernel_rfl
def CSQ (a : CZ) : Prop := AZ Try.prog CTL vG (AL vG) (xCZ a) (AG []) (.tup [.d (AX nilS), .int (AR a)]) [] [] []
theorem CXM (a : CZ) : (CSQ a) = ((a.c.p.lo = a.c.p.lo /\ a.c.p.hi = a.c.p.hi /\ a.c.base = a.c.base /\ a.c.scale = a.c.scale /\ a.c.off = a.c.off /\ (AE a.c.ms.length λ (i : Nat) => gD a.c.ms i).length =
 a.c.ms.length /\ (∀ (i : Nat), i < (AE a.c.ms.length λ (i : Nat) => gD a.c.ms i).length -> (gD (AE a.c.ms.length λ (i : Nat) => gD a.c.ms i) i).pl = (gD a.c.ms i).pl /\ (gD (AE a.c.ms.length λ (i : Nat) => gD
 a.c.ms i) i).ht = (gD a.c.ms i).ht) /\ (AE a.c.ns.length λ (i : Nat) => gD a.c.ns i).length = a.c.ns.length /\ (∀ (i : Nat), i < (AE a.c.ns.length λ (i : Nat) => gD a.c.ns i).length -> (gD (AE a.c.ns.length λ (i :
 Nat) => gD a.c.ns i) i).mi = (gD a.c.ns i).mi /\ (gD (AE a.c.ns.length λ (i : Nat) => gD a.c.ns i) i).t.lo = (gD a.c.ns i).t.lo /\ (gD (AE a.c.ns.length λ (i : Nat) => gD a.c.ns i) i).t.hi = (gD a.c.ns i).t.hi /\ (gD
 (AE a.c.ns.length λ (i : Nat) => gD a.c.ns i) i).s.lo = (gD a.c.ns i).s.lo /\ (gD (AE a.c.ns.length λ (i : Nat) => gD a.c.ns i) i).s.hi = (gD a.c.ns i).s.hi) /\ (AE a.z.length λ (i : Nat) => gD a.z i).length =
 a.z.length /\ (∀ (i : Nat), i < (AE a.z.length λ (i : Nat) => gD a.z i).length -> gD (AE a.z.length λ (i : Nat) => gD a.z i) i = gD a.z i) /\ ((AE a.c.ms.length λ (i : Nat) => gD a.c.ms i).length <
 4611686018427387904 /\ (AE a.c.ns.length λ (i : Nat) => gD a.c.ns i).length < 4611686018427387904 /\ (AE a.z.length λ (i : Nat) => gD a.z i).length < 4611686018427387904) /\ AR (CZ.mk (Cht.mk a.c.p a.c.base
 a.c.scale a.c.off (AE a.c.ms.length λ (i : Nat) => gD a.c.ms i) (AE a.c.ns.length λ (i : Nat) => gD a.c.ns i)) (AE a.z.length λ (i : Nat) => gD a.z i)) ≠ 0) /\ 0 = 0 /\ 0 = 0 /\ AR a = AR (CZ.mk (Cht.mk a.c.p
 a.c.base a.c.scale a.c.off (AE a.c.ms.length λ (i : Nat) => gD a.c.ms i) (AE a.c.ns.length λ (i : Nat) => gD a.c.ns i)) (AE a.z.length λ (i : Nat) => gD a.z i))) := by kernel_rfl
theorem BYB : AM Try.prog ANO (C_Times.spec dCZ) := okT C_Times (λ (a : CZ) h => by
 have h1 : a.c.ms.length < 4611686018427387904 /\ a.c.ns.length < 4611686018427387904 /\ a.z.length < 4611686018427387904 := h
 by_cases c0 : AR a = 0
 ·have e : C_Times.val a = .tup [.d (AX (AU (AI a)).1), .int 0] := by
   show AVal.tup [.d (AX (Ci a).1), .int (Ci a).2] = _
   unfold Ci; rw [c0]; rfl
  rw [e]
  refine UO (A := CSW) (L := []) (keep := []) (ren := []) (fz := []) BWK (by kernel_rfl) (AC BUX AJ) ?_
  show CRS a; rw [CWD]; simp only [CC, eq_self, implies_true, forall_const, BZ, RQ]
  simp [h1, c0]
 ·have c0' : (AR a == 0) = false := by simpa using c0
  have e : C_Times.val a = .tup [.d (AX nilS), .int (AR a)] := by
   show AVal.tup [.d (AX (Ci a).1), .int (Ci a).2] = _
   unfold Ci; rw [c0']; rfl
  rw [e]
  refine UO (A := CTL) (L := []) (keep := []) (ren := []) (fz := []) BWK (by kernel_rfl) (AC BSC AJ) ?_
  show CSQ a; rw [CXM]; simp only [CC, eq_self, implies_true, forall_const, BZ, RQ]
  simp [h1, c0, nilS]) _
end Go.Bal
