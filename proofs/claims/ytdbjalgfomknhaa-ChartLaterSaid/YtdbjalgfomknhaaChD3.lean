/- Package chart: times. -/
import Derived.Test.YtdbjalgfomknhaaChD2
set_option linter.unusedVariables false
set_option linter.unusedSimpArgs false
namespace Go.Bal
open Go Go.Sym Go.Proofs
def AU (w : Dk) : List Span × Bool := bif stgOk w.c then (KF w (Fb w.c), (KF w (Fb w.c)).all IL) else ([], false)
def C_times : Ctr := { ro := [100, 101], α := Dk, xs := λ _ => [.bptr 100 0], L := λ w => dkL w, val := λ w => .tup [.d (AV (AU w).1), .bool (AU w).2], keep := λ w => dkK w, pre := λ w => [1 <= w.c.ms.length /\ w.c.ms.length <= 40 /\ nsIn w.c] }
def CCS : Ann := { ann 19 [(BUH, C_all.spec dDk1), (BNK, C_not.spec dDk1), (TR, C_nar.spec dDkS)] with E := [100, 101] }
def CDT (w : Dk) : Prop := AW Try.prog CCS BTK (AK BTK) (C_times.xs w) (AF (C_times.L w)) (C_times.val w) (C_times.keep w) [] []
abbrev KE (w : Dk) : Prop := w.c.p.lo = w.c.p.lo
abbrev KC (w : Dk) : Prop := w.c.p.hi = w.c.p.hi
abbrev Za (w : Dk) : List Mk := AE w.c.ms.length λ (i : Nat) => gD w.c.ms i
abbrev KD (w : Dk) : Nat := (Za w).length
abbrev aM (w : Dk) : Prop := KD w = w.c.ms.length
abbrev AHW (w : Dk) (i : Nat) : Mk := gD (Za w) i
abbrev ALN (w : Dk) (i : Nat) : Int := (AHW w i).pl
abbrev W0 (w : Dk) (i : Nat) : Int := (AHW w i).ht
abbrev fT (w : Dk) : Prop := ∀ (i : Nat), i < KD w -> ALN w i = (gD w.c.ms i).pl /\ W0 w i = (gD w.c.ms i).ht
abbrev QP (w : Dk) : List Nt := AE w.c.ns.length λ (i : Nat) => gD w.c.ns i
abbrev Hv (w : Dk) : Nat := (QP w).length
abbrev Ja (w : Dk) : Prop := Hv w = w.c.ns.length
abbrev Gm (w : Dk) (i : Nat) : Nt := gD (QP w) i
abbrev mX (w : Dk) (i : Nat) : Int := (Gm w i).mi
abbrev pW (w : Dk) (i : Nat) : Span := (Gm w i).t
abbrev rB (w : Dk) (i : Nat) : Int := (pW w i).lo
abbrev pZ (w : Dk) (i : Nat) : Int := (pW w i).hi
abbrev kE (w : Dk) (i : Nat) : Span := (Gm w i).s
abbrev pY (w : Dk) (i : Nat) : Int := (kE w i).lo
abbrev rD (w : Dk) (i : Nat) : Int := (kE w i).hi
abbrev Jq (w : Dk) : Prop := ∀ (i : Nat), i < Hv w -> mX w i = (gD w.c.ns i).mi /\ rB w i = (gD w.c.ns i).t.lo /\ pZ w i = (gD w.c.ns i).t.hi /\ pY w i = (gD w.c.ns i).s.lo /\
 rD w i = (gD w.c.ns i).s.hi
abbrev HI (w : Dk) : Prop := ∀ (i : Nat), i < 40 -> w.sp i = w.sp i
abbrev Gi (w : Dk) (n : Int) : Bool := hasN (QP w) n
abbrev Ht (w : Dk) : Prop := ∀ (n : Int), Gi w n = hasN w.c.ns n
abbrev HO (w : Dk) : Prop := ∀ (n : Int), w.st n = w.st n
abbrev Ie (w : Dk) (n : Int) : Nt := ntOf (QP w) n
abbrev sA (w : Dk) (n : Int) : Int := (Ie w n).mi
abbrev nL (w : Dk) (n : Int) : Span := (Ie w n).t
abbrev mJ (w : Dk) (n : Int) : Int := (nL w n).lo
abbrev kF (w : Dk) (n : Int) : Int := (nL w n).hi
abbrev oH (w : Dk) (n : Int) : Span := (Ie w n).s
abbrev kJ (w : Dk) (n : Int) : Int := (oH w n).lo
abbrev rH (w : Dk) (n : Int) : Int := (oH w n).hi
abbrev Ir (w : Dk) : Prop := ∀ (n : Int), sA w n = (ntOf w.c.ns n).mi /\ mJ w n = (ntOf w.c.ns n).t.lo /\ kF w n = (ntOf w.c.ns n).t.hi /\ kJ w n = (ntOf w.c.ns n).s.lo /\ rH w
 n = (ntOf w.c.ns n).s.hi
abbrev Ic (w : Dk) : Prop := w.c.ms.length = KD w
abbrev Gu (w : Dk) : Prop := ∀ (i : Nat), i < w.c.ms.length -> (gD w.c.ms i).pl = ALN w i /\ (gD w.c.ms i).ht = W0 w i
abbrev Ef (w : Dk) : Prop := w.c.ns.length = Hv w
abbrev Hh (w : Dk) : Prop := ∀ (i : Nat), i < w.c.ns.length -> (gD w.c.ns i).mi = mX w i /\ (gD w.c.ns i).t.lo = rB w i /\ (gD w.c.ns i).t.hi = pZ w i /\ (gD w.c.ns i).s.lo = pY w i /\
 (gD w.c.ns i).s.hi = rD w i
abbrev Ep (w : Dk) : Prop := ∀ (n : Int), hasN w.c.ns n = Gi w n
abbrev Ft (w : Dk) : Prop := ∀ (n : Int), (ntOf w.c.ns n).mi = sA w n /\ (ntOf w.c.ns n).t.lo = mJ w n /\ (ntOf w.c.ns n).t.hi = kF w n /\ (ntOf w.c.ns n).s.lo = kJ w n /\ (ntOf w.c.ns
 n).s.hi = rH w n
abbrev sO (w : Dk) : Prop := 1 <= KD w
abbrev rU (w : Dk) : Prop := KD w <= 40
abbrev iJ (w : Dk) : Prop := sO w /\ rU w
abbrev Er (w : Dk) : Cht := Cht.mk w.c.p w.c.base w.c.scale w.c.off (Za w) (QP w)
abbrev kD (w : Dk) : Prop := (AU w).fst.length = 0
abbrev lY (w : Dk) : Prop := KE w /\ KC w /\ w.c.base = w.c.base /\ w.c.scale = w.c.scale /\ w.c.off = w.c.off /\ w.c.ms.length = w.c.ms.length /\ (∀ (i : Nat), i < w.c.ms.length -> (gD w.c.ms i).pl = (gD
 w.c.ms i).pl /\ (gD w.c.ms i).ht = (gD w.c.ms i).ht) /\ w.c.ns.length = w.c.ns.length /\ (∀ (i : Nat), i < w.c.ns.length -> (gD w.c.ns i).mi = (gD w.c.ns i).mi /\ (gD w.c.ns i).t.lo = (gD w.c.ns i).t.lo /\ (gD w.c.ns i).t.hi =
 (gD w.c.ns i).t.hi /\ (gD w.c.ns i).s.lo = (gD w.c.ns i).s.lo /\ (gD w.c.ns i).s.hi = (gD w.c.ns i).s.hi) /\ HI w /\ AT = AT /\ (∀ (n : Int), hasN w.c.ns n = hasN w.c.ns n) /\ HO w /\ ∀ (n : Int), (ntOf w.c.ns
 n).mi = (ntOf w.c.ns n).mi /\ (ntOf w.c.ns n).t.lo = (ntOf w.c.ns n).t.lo /\ (ntOf w.c.ns n).t.hi = (ntOf w.c.ns n).t.hi /\ (ntOf w.c.ns n).s.lo = (ntOf w.c.ns n).s.lo /\ (ntOf w.c.ns n).s.hi = (ntOf w.c.ns n).s.hi
abbrev lZ (w : Dk) : List Span := Fb (Er w)
abbrev sU (w : Dk) : Nat := (lZ w).length
abbrev Hq (w : Dk) (i : Nat) : Span := gD (lZ w) i
abbrev Hx (w : Dk) : List Span := AE (sU w) λ (i : Nat) => Hq w i
abbrev Ih (w : Dk) : Nat := (Hx w).length
abbrev rT (w : Dk) (i : Nat) : Span := gD (Hx w) i
abbrev Hk (w : Dk) : List Span := KF (Dk.mk (Er w) w.st w.sp) (Hx w)
abbrev qG (w : Dk) (i : Nat) : Span := gD (AU w).fst i
abbrev pH (w : Dk) (i : Nat) : Span := gD (Hk w) i
theorem CJK (w : Dk) : (CDT w) = ((KE w /\ KC w /\ w.c.base = w.c.base /\ w.c.scale = w.c.scale /\ w.c.off = w.c.off /\ aM w /\ fT w /\ Ja w /\ Jq w /\ HI w /\ AT = AT
 /\ Ht w /\ HO w /\ Ir w /\ KE w /\ KC w /\ w.c.base = w.c.base /\ w.c.scale = w.c.scale /\ w.c.off = w.c.off /\ Ic w /\ Gu w /\ Ef w /\ Hh w /\ HI w /\ AT
 = AT /\ Ep w /\ HO w /\ Ft w /\ iJ w) /\ bif !stgOk (Er w) then kD w /\ kD w /\ (AU w).snd = false /\ lY w else (KE w /\ KC w /\ w.c.base =
 w.c.base /\ w.c.scale = w.c.scale /\ w.c.off = w.c.off /\ aM w /\ fT w /\ Ja w /\ Jq w /\ HI w /\ AT = AT /\ Ht w /\ HO w /\ Ir w /\ KE w /\ KC w /\
 w.c.base = w.c.base /\ w.c.scale = w.c.scale /\ w.c.off = w.c.off /\ Ic w /\ Gu w /\ Ef w /\ Hh w /\ HI w /\ AT = AT /\ Ep w /\ HO w /\ Ft w /\ (sO w /\
 rU w /\ ∀ (j : Int), Gi w j = true -> 0 <= j /\ j < (↑(KD w) : Int)) /\ Ih w = sU w /\ (∀ (i : Nat), i < Ih w -> (rT w i).lo = (Hq w i).lo /\ (rT w i).hi =
 (Hq w i).hi) /\ KE w /\ KC w /\ w.c.base = w.c.base /\ w.c.scale = w.c.scale /\ w.c.off = w.c.off /\ aM w /\ fT w /\ Ja w /\ Jq w /\ HI w /\ AT = AT /\ Ht w /\
 HO w /\ Ir w /\ KE w /\ KC w /\ w.c.base = w.c.base /\ w.c.scale = w.c.scale /\ w.c.off = w.c.off /\ Ic w /\ Gu w /\ Ef w /\ Hh w /\ HI w /\ AT = AT /\
 Ep w /\ HO w /\ Ft w /\ Ih w = KD w /\ iJ w) /\ (AU w).fst.length = (Hk w).length /\ (∀ (i : Nat), i < (AU w).fst.length -> (qG w i).lo = (pH w
 i).lo /\ (qG w i).hi = (pH w i).hi) /\ (AU w).snd = (Hk w).all IL /\ lY w) := by kernel_rfl
theorem TE (a : CZ) : CZ.mk a.c a.z = a := rfl
theorem EN (c : Cht) : (Fb c).length = c.ms.length := rng_length _ _
theorem zI : AL Try.prog uM (C_times.spec dDk1) := KV C_times (λ _ => CCS) [] [] CJV (λ _ => by kernel_rfl) (λ _ => AD BRY (AD CVD (AD BZY AI))) (λ (w : Dk) h => by
 obtain ⟨h1, h2, h3⟩ : 1 <= w.c.ms.length /\ w.c.ms.length <= 40 /\ nsIn w.c := h
 show CDT w; rw [CJK]; delta KE KC Za KD aM AHW ALN W0 fT QP Hv Ja Gm mX pW rB pZ kE pY rD Jq HI Gi Ht HO Ie sA nL mJ kF oH kJ rH Ir Ic Gu Ef Hh Ep Ft sO rU iJ Er kD lY lZ sU Hq Hx Ih rT Hk qG pH; simp only [CC, eq_self, implies_true, forall_const, BH, YR]
 refine ⟨⟨h1, h2⟩, λ h => ?_, λ h => ⟨⟨⟨h1, h2, h3⟩, EN _, h1, h2⟩, ?_⟩⟩
 ·unfold AU; rw [h]; exact ⟨rfl, rfl, rfl⟩
 ·unfold AU; rw [h]; exact ⟨rfl, λ _ _ => ⟨rfl, rfl⟩, rfl⟩) (λ _ => MD rfl rfl) _
def AM (a : CZ) : Int := bif AJ a.c == 0 then bif okZ a then bif (AU (AH a)).2 then 0 else 6 else 2 else AJ a.c
def C_rdO : Ctr := { α := CZ, xs := xCZ, val := λ a => .tup [.bptr 0 0, .d (AV (AU (AH a)).1), .d (AV (stgL a.c)), .int 0], keep := λ a => dkN (AH a), pre := λ a => [(a.c.ms.length < 4611686018427387904 /\ a.c.ns.length < 4611686018427387904 /\ a.z.length < 4611686018427387904) /\ AM a = 0] }
def C_rdX : Ctr := { α := CZ, xs := xCZ, val := λ a => .tup [.d (.v (.pointer none)), .d FG, .d FG, .int (AM a)], keep := λ _ => [], pre := λ a => [(a.c.ms.length < 4611686018427387904 /\ a.c.ns.length < 4611686018427387904 /\ a.z.length < 4611686018427387904) /\ AM a ≠ 0] }
def A_rd : Ann := ann 38 [(xQ, C_beg.spec dCZ), (uM, C_times.spec dDk1), (BUH, C_all.spec dDk1)]
def CSX : Ann := ann 38 [(xQ, C_begX.spec dCZ)]
def CSF (a : CZ) : Prop := AW Try.prog A_rd kA (AK kA) (xCZ a) (AF []) (C_rdO.val a) (C_rdO.keep a) [(0, 2032), (1, 2033)] []
abbrev AQC (a : CZ) : List Mk := AE a.c.ms.length λ (i : Nat) => gD a.c.ms i
abbrev AOR (a : CZ) : Nat := (AQC a).length
abbrev BQF (a : CZ) (i : Nat) : Mk := gD (AQC a) i
abbrev AOW (a : CZ) : List Nt := AE a.c.ns.length λ (i : Nat) => gD a.c.ns i
abbrev APF (a : CZ) : Nat := (AOW a).length
abbrev ANO (a : CZ) (i : Nat) : Nt := gD (AOW a) i
abbrev BTP (a : CZ) (i : Nat) : Span := (ANO a i).t
abbrev BKA (a : CZ) (i : Nat) : Span := (ANO a i).s
abbrev AOP (a : CZ) : List Int := AE a.z.length λ (i : Nat) => gD a.z i
abbrev APB (a : CZ) : Nat := (AOP a).length
abbrev BCG (a : CZ) : Cht := Cht.mk a.c.p a.c.base a.c.scale a.c.off (AQC a) (AOW a)
abbrev AXY (a : CZ) : CZ := CZ.mk (BCG a) (AOP a)
abbrev Co (a : CZ) : Dk := AH (AXY a)
abbrev SG (a : CZ) : Cht := (Co a).c
abbrev J0 (a : CZ) : Span := (SG a).p
abbrev zC (a : CZ) : Int := (J0 a).lo
abbrev Ri (a : CZ) : Prop := zC a = zC a
abbrev F0 (a : CZ) : Int := (J0 a).hi
abbrev Kg (a : CZ) : Prop := F0 a = F0 a
abbrev Vd (a : CZ) : Int := (SG a).base
abbrev Me (a : CZ) : Prop := Vd a = Vd a
abbrev Mo (a : CZ) : Int := (SG a).scale
abbrev Kv (a : CZ) : Prop := Mo a = Mo a
abbrev Xr (a : CZ) : Int := (SG a).off
abbrev Tc (a : CZ) : Prop := Xr a = Xr a
abbrev ASK (a : CZ) : List Mk := (SG a).ms
abbrev Cz (a : CZ) : Nat := (ASK a).length
abbrev zP (a : CZ) (i : Nat) : Mk := gD (ASK a) i
abbrev C5 (a : CZ) : List Mk := AE (Cz a) λ (i : Nat) => zP a i
abbrev TU (a : CZ) : Nat := (C5 a).length
abbrev AQP (a : CZ) : Prop := TU a = Cz a
abbrev BBJ (a : CZ) (i : Nat) : Mk := gD (C5 a) i
abbrev AZW (a : CZ) (i : Nat) : Int := (BBJ a i).pl
abbrev A2 (a : CZ) (i : Nat) : Int := (zP a i).pl
abbrev AZP (a : CZ) (i : Nat) : Int := (BBJ a i).ht
abbrev E0 (a : CZ) (i : Nat) : Int := (zP a i).ht
abbrev BHZ (a : CZ) : Prop := ∀ (i : Nat), i < TU a -> AZW a i = A2 a i /\ AZP a i = E0 a i
abbrev Ti (a : CZ) : List Nt := (SG a).ns
abbrev Bm (a : CZ) : Nat := (Ti a).length
abbrev Mi (a : CZ) (i : Nat) : Nt := gD (Ti a) i
abbrev Dl (a : CZ) : List Nt := AE (Bm a) λ (i : Nat) => Mi a i
abbrev vV (a : CZ) : Nat := (Dl a).length
abbrev AYF (a : CZ) : Prop := vV a = Bm a
abbrev vT (a : CZ) (i : Nat) : Nt := gD (Dl a) i
abbrev BGU (a : CZ) (i : Nat) : Int := (vT a i).mi
abbrev J7 (a : CZ) (i : Nat) : Int := (Mi a i).mi
abbrev AYZ (a : CZ) (i : Nat) : Span := (vT a i).t
abbrev BDF (a : CZ) (i : Nat) : Int := (AYZ a i).lo
abbrev BAQ (a : CZ) (i : Nat) : Span := (Mi a i).t
abbrev B8 (a : CZ) (i : Nat) : Int := (BAQ a i).lo
abbrev BAX (a : CZ) (i : Nat) : Int := (AYZ a i).hi
abbrev zJ (a : CZ) (i : Nat) : Int := (BAQ a i).hi
abbrev BHU (a : CZ) (i : Nat) : Span := (vT a i).s
abbrev BCR (a : CZ) (i : Nat) : Int := (BHU a i).lo
abbrev BAS (a : CZ) (i : Nat) : Span := (Mi a i).s
abbrev zQ (a : CZ) (i : Nat) : Int := (BAS a i).lo
abbrev AWJ (a : CZ) (i : Nat) : Int := (BHU a i).hi
abbrev tZ (a : CZ) (i : Nat) : Int := (BAS a i).hi
abbrev BHM (a : CZ) : Prop := ∀ (i : Nat), i < vV a -> BGU a i = J7 a i /\ BDF a i = B8 a i /\ BAX a i = zJ a i /\ BCR a i = zQ a i /\ AWJ a i = tZ a i
abbrev xZ (a : CZ) (i : Nat) : Bool := (Co a).sp i
abbrev Sx (a : CZ) : Prop := ∀ (i : Nat), i < (40 : Nat) -> xZ a i = xZ a i
abbrev K7 (a : CZ) (n : Int) : Bool := hasN (Dl a) n
abbrev vM (a : CZ) (n : Int) : Bool := hasN (Ti a) n
abbrev BFJ (a : CZ) : Prop := ∀ (n : Int), K7 a n = vM a n
abbrev F4 (a : CZ) (n : Int) : Int := (Co a).st n
abbrev Qg (a : CZ) : Prop := ∀ (n : Int), F4 a n = F4 a n
abbrev zD (a : CZ) (n : Int) : Nt := ntOf (Dl a) n
abbrev AXE (a : CZ) (n : Int) : Int := (zD a n).mi
abbrev vI (a : CZ) (n : Int) : Nt := ntOf (Ti a) n
abbrev wB (a : CZ) (n : Int) : Int := (vI a n).mi
abbrev BGL (a : CZ) (n : Int) : Span := (zD a n).t
abbrev AVS (a : CZ) (n : Int) : Int := (BGL a n).lo
abbrev AUU (a : CZ) (n : Int) : Span := (vI a n).t
abbrev wT (a : CZ) (n : Int) : Int := (AUU a n).lo
abbrev AWH (a : CZ) (n : Int) : Int := (BGL a n).hi
abbrev A8 (a : CZ) (n : Int) : Int := (AUU a n).hi
abbrev BCN (a : CZ) (n : Int) : Span := (zD a n).s
abbrev AYS (a : CZ) (n : Int) : Int := (BCN a n).lo
abbrev BCJ (a : CZ) (n : Int) : Span := (vI a n).s
abbrev J1 (a : CZ) (n : Int) : Int := (BCJ a n).lo
abbrev AYK (a : CZ) (n : Int) : Int := (BCN a n).hi
abbrev yM (a : CZ) (n : Int) : Int := (BCJ a n).hi
abbrev BCF (a : CZ) : Prop := ∀ (n : Int), AXE a n = wB a n /\ AVS a n = wT a n /\ AWH a n = A8 a n /\ AYS a n = J1 a n /\ AYK a n = yM a n
abbrev BDP (a : CZ) : Prop := Cz a = TU a
abbrev BAO (a : CZ) : Prop := ∀ (i : Nat), i < Cz a -> A2 a i = AZW a i /\ E0 a i = AZP a i
abbrev AVQ (a : CZ) : Prop := Bm a = vV a
abbrev BFE (a : CZ) : Prop := ∀ (i : Nat), i < Bm a -> J7 a i = BGU a i /\ B8 a i = BDF a i /\ zJ a i = BAX a i /\ zQ a i = BCR a i /\ tZ a i = AWJ a i
abbrev AWR (a : CZ) : Prop := ∀ (n : Int), vM a n = K7 a n
abbrev AUE (a : CZ) : Prop := ∀ (n : Int), wB a n = AXE a n /\ wT a n = AVS a n /\ A8 a n = AWH a n /\ J1 a n = AYS a n /\ yM a n = AYK a n
abbrev AYI (a : CZ) : Prop := (1 : Nat) <= TU a
abbrev ATR (a : CZ) : Prop := TU a <= (40 : Nat)
abbrev AQU (a : CZ) : Cht := Cht.mk (J0 a) (Vd a) (Mo a) (Xr a) (C5 a) (Dl a)
abbrev AXK (a : CZ) : List Span × Bool := AU (Dk.mk (AQU a) (Co a).st (Co a).sp)
abbrev BHO (a : CZ) : List Span := (AXK a).fst
abbrev BIK (a : CZ) (i : Nat) : Span := gD (AU (AH a)).fst i
abbrev AVJ (a : CZ) (i : Nat) : Span := gD (BHO a) i
abbrev AYY (a : CZ) : List Span := stgL (AQU a)
abbrev BDA (a : CZ) (i : Nat) : Span := gD (AYY a) i
theorem CVP (a : CZ) : (CSF a) = ((a.c.p.lo = a.c.p.lo /\ a.c.p.hi = a.c.p.hi /\ a.c.base = a.c.base /\ a.c.scale = a.c.scale /\ a.c.off = a.c.off /\ AOR a = a.c.ms.length /\ (∀ (i : Nat), i < AOR a -> (BQF a
 i).pl = (gD a.c.ms i).pl /\ (BQF a i).ht = (gD a.c.ms i).ht) /\ APF a = a.c.ns.length /\ (∀ (i : Nat), i < APF a -> (ANO a i).mi = (gD a.c.ns i).mi /\ (BTP a i).lo = (gD a.c.ns i).t.lo /\ (BTP a i).hi =
 (gD a.c.ns i).t.hi /\ (BKA a i).lo = (gD a.c.ns i).s.lo /\ (BKA a i).hi = (gD a.c.ns i).s.hi) /\ APB a = a.z.length /\ (∀ (i : Nat), i < APB a -> gD (AOP a) i = gD a.z i) /\ (AOR a <
 (4611686018427387904 : Nat) /\ APF a < (4611686018427387904 : Nat) /\ APB a < (4611686018427387904 : Nat)) /\ AJ (BCG a) = (0 : Int)) /\ bif Bg (AXY a) != (0 : Int) then False else (Ri a /\
 Kg a /\ Me a /\ Kv a /\ Tc a /\ AQP a /\ BHZ a /\ AYF a /\ BHM a /\ Sx a /\ AT = AT /\ BFJ a /\ Qg a /\ BCF a /\ Ri a /\ Kg a /\ Me a /\ Kv a /\
 Tc a /\ BDP a /\ BAO a /\ AVQ a /\ BFE a /\ Sx a /\ AT = AT /\ AWR a /\ Qg a /\ AUE a /\ AYI a /\ ATR a /\ ∀ (j : Int), K7 a j = true -> (0 : Int) <= j /\ j <
 (↑(TU a) : Int)) /\ bif !(AXK a).snd then False else (Ri a /\ Kg a /\ Me a /\ Kv a /\ Tc a /\ AQP a /\ BHZ a /\ AYF a /\ BHM a /\ Sx a /\ AT = AT /\ BFJ a /\
 Qg a /\ BCF a /\ Ri a /\ Kg a /\ Me a /\ Kv a /\ Tc a /\ BDP a /\ BAO a /\ AVQ a /\ BFE a /\ Sx a /\ AT = AT /\ AWR a /\ Qg a /\ AUE a /\ AYI a /\
 ATR a) /\ (AU (AH a)).fst.length = (BHO a).length /\ (∀ (i : Nat), i < (AU (AH a)).fst.length -> (BIK a i).lo = (AVJ a i).lo /\ (BIK a i).hi = (AVJ a i).hi) /\ (stgL a.c).length =
 (AYY a).length /\ (∀ (i : Nat), i < (stgL a.c).length -> (gD (stgL a.c) i).lo = (BDA a i).lo /\ (gD (stgL a.c) i).hi = (BDA a i).hi) /\ Int.ofNat (0 : Nat) = Int.ofNat (0 : Nat) /\ (AH a).c.p.lo = zC a
 /\ (AH a).c.p.hi = F0 a /\ (AH a).c.base = Vd a /\ (AH a).c.scale = Mo a /\ (AH a).c.off = Xr a /\ (AH a).c.ms.length = Cz a /\ (∀ (i : Nat), i < (AH a).c.ms.length -> (gD (AH a).c.ms
 i).pl = A2 a i /\ (gD (AH a).c.ms i).ht = E0 a i) /\ (AH a).c.ns.length = Bm a /\ (∀ (i : Nat), i < (AH a).c.ns.length -> (gD (AH a).c.ns i).mi = J7 a i /\ (gD (AH a).c.ns i).t.lo = B8
 a i /\ (gD (AH a).c.ns i).t.hi = zJ a i /\ (gD (AH a).c.ns i).s.lo = zQ a i /\ (gD (AH a).c.ns i).s.hi = tZ a i) /\ (∀ (i : Nat), i < (40 : Nat) -> (AH a).sp i = xZ a i) /\ AT = AT /\ (∀ (n :
 Int), hasN (AH a).c.ns n = vM a n) /\ (∀ (n : Int), (AH a).st n = F4 a n) /\ ∀ (n : Int), (ntOf (AH a).c.ns n).mi = wB a n /\ (ntOf (AH a).c.ns n).t.lo = wT a n /\ (ntOf (AH a).c.ns n).t.hi
 = A8 a n /\ (ntOf (AH a).c.ns n).s.lo = J1 a n /\ (ntOf (AH a).c.ns n).s.hi = yM a n) := by kernel_rfl
def CIQ (a : CZ) : Prop := AW Try.prog A_rd kA (AK kA) (xCZ a) (AF []) (C_rdX.val a) [] [] []
abbrev G7 (a : CZ) : List Mk := AE a.c.ms.length λ (i : Nat) => gD a.c.ms i
abbrev zR (a : CZ) : Nat := (G7 a).length
abbrev AXH (a : CZ) (i : Nat) : Mk := gD (G7 a) i
abbrev E7 (a : CZ) : List Nt := AE a.c.ns.length λ (i : Nat) => gD a.c.ns i
abbrev yL (a : CZ) : Nat := (E7 a).length
abbrev L6 (a : CZ) (i : Nat) : Nt := gD (E7 a) i
abbrev ARS (a : CZ) (i : Nat) : Span := (L6 a i).t
abbrev AXM (a : CZ) (i : Nat) : Span := (L6 a i).s
abbrev wY (a : CZ) : List Int := AE a.z.length λ (i : Nat) => gD a.z i
abbrev uZ (a : CZ) : Nat := (wY a).length
abbrev ABR (a : CZ) : Cht := Cht.mk a.c.p a.c.base a.c.scale a.c.off (G7 a) (E7 a)
abbrev AKT (a : CZ) : CZ := CZ.mk (ABR a) (wY a)
abbrev T8 (a : CZ) : Int := Bg (AKT a)
abbrev As : Prop := 0 = 0
abbrev Bo : Prop := ∀ (i : Nat), i < 0 -> false = false
abbrev PY (a : CZ) : Dk := AH (AKT a)
abbrev MJ (a : CZ) : Cht := (PY a).c
abbrev Zk (a : CZ) : Span := (MJ a).p
abbrev O6 (a : CZ) : Int := (Zk a).lo
abbrev Dt (a : CZ) : Prop := O6 a = O6 a
abbrev AJK (a : CZ) : Int := (Zk a).hi
abbrev Bh (a : CZ) : Prop := AJK a = AJK a
abbrev fQ (a : CZ) : Int := (MJ a).base
abbrev Cp (a : CZ) : Prop := fQ a = fQ a
abbrev aT (a : CZ) : Int := (MJ a).scale
abbrev ZO (a : CZ) : Prop := aT a = aT a
abbrev bB (a : CZ) : Int := (MJ a).off
abbrev ZT (a : CZ) : Prop := bB a = bB a
abbrev ALO (a : CZ) : List Mk := (MJ a).ms
abbrev Br (a : CZ) : Nat := (ALO a).length
abbrev aJ (a : CZ) (i : Nat) : Mk := gD (ALO a) i
abbrev Zs (a : CZ) : List Mk := AE (Br a) λ (i : Nat) => aJ a i
abbrev MB (a : CZ) : Nat := (Zs a).length
abbrev ADS (a : CZ) : Prop := MB a = Br a
abbrev M3 (a : CZ) (i : Nat) : Mk := gD (Zs a) i
abbrev ABN (a : CZ) (i : Nat) : Int := (M3 a i).pl
abbrev AAY (a : CZ) (i : Nat) : Int := (aJ a i).pl
abbrev AJT (a : CZ) (i : Nat) : Int := (M3 a i).ht
abbrev S6 (a : CZ) (i : Nat) : Int := (aJ a i).ht
abbrev AIC (a : CZ) : Prop := ∀ (i : Nat), i < MB a -> ABN a i = AAY a i /\ AJT a i = S6 a i
abbrev ZG (a : CZ) : List Nt := (MJ a).ns
abbrev Bl (a : CZ) : Nat := (ZG a).length
abbrev YX (a : CZ) (i : Nat) : Nt := gD (ZG a) i
abbrev RJ (a : CZ) : List Nt := AE (Bl a) λ (i : Nat) => YX a i
abbrev eI (a : CZ) : Nat := (RJ a).length
abbrev ACC (a : CZ) : Prop := eI a = Bl a
abbrev aU (a : CZ) (i : Nat) : Nt := gD (RJ a) i
abbrev AIA (a : CZ) (i : Nat) : Int := (aU a i).mi
abbrev AKM (a : CZ) (i : Nat) : Int := (YX a i).mi
abbrev AGF (a : CZ) (i : Nat) : Span := (aU a i).t
abbrev ABO (a : CZ) (i : Nat) : Int := (AGF a i).lo
abbrev ABG (a : CZ) (i : Nat) : Span := (YX a i).t
abbrev AGC (a : CZ) (i : Nat) : Int := (ABG a i).lo
abbrev Y1 (a : CZ) (i : Nat) : Int := (AGF a i).hi
abbrev AGK (a : CZ) (i : Nat) : Int := (ABG a i).hi
abbrev ADF (a : CZ) (i : Nat) : Span := (aU a i).s
abbrev AES (a : CZ) (i : Nat) : Int := (ADF a i).lo
abbrev AGJ (a : CZ) (i : Nat) : Span := (YX a i).s
abbrev AFA (a : CZ) (i : Nat) : Int := (AGJ a i).lo
abbrev U7 (a : CZ) (i : Nat) : Int := (ADF a i).hi
abbrev ADX (a : CZ) (i : Nat) : Int := (AGJ a i).hi
abbrev AFC (a : CZ) : Prop := ∀ (i : Nat), i < eI a -> AIA a i = AKM a i /\ ABO a i = AGC a i /\ Y1 a i = AGK a i /\ AES a i = AFA a i /\ U7 a i = ADX
 a i
abbrev AAQ (a : CZ) (i : Nat) : Bool := (PY a).sp i
abbrev Bv (a : CZ) : Prop := ∀ (i : Nat), i < 40 -> AAQ a i = AAQ a i
abbrev Zf (a : CZ) (n : Int) : Bool := hasN (RJ a) n
abbrev ADL (a : CZ) (n : Int) : Bool := hasN (ZG a) n
abbrev AKR (a : CZ) : Prop := ∀ (n : Int), Zf a n = ADL a n
abbrev AEL (a : CZ) (n : Int) : Int := (PY a).st n
abbrev Bj (a : CZ) : Prop := ∀ (n : Int), AEL a n = AEL a n
abbrev Yz (a : CZ) (n : Int) : Nt := ntOf (RJ a) n
abbrev AAF (a : CZ) (n : Int) : Int := (Yz a n).mi
abbrev eH (a : CZ) (n : Int) : Nt := ntOf (ZG a) n
abbrev O7 (a : CZ) (n : Int) : Int := (eH a n).mi
abbrev AFZ (a : CZ) (n : Int) : Span := (Yz a n).t
abbrev AKL (a : CZ) (n : Int) : Int := (AFZ a n).lo
abbrev Y3 (a : CZ) (n : Int) : Span := (eH a n).t
abbrev ACG (a : CZ) (n : Int) : Int := (Y3 a n).lo
abbrev AKF (a : CZ) (n : Int) : Int := (AFZ a n).hi
abbrev ABI (a : CZ) (n : Int) : Int := (Y3 a n).hi
abbrev AFE (a : CZ) (n : Int) : Span := (Yz a n).s
abbrev X9 (a : CZ) (n : Int) : Int := (AFE a n).lo
abbrev ALH (a : CZ) (n : Int) : Span := (eH a n).s
abbrev AGM (a : CZ) (n : Int) : Int := (ALH a n).lo
abbrev ALZ (a : CZ) (n : Int) : Int := (AFE a n).hi
abbrev AJJ (a : CZ) (n : Int) : Int := (ALH a n).hi
abbrev AJF (a : CZ) : Prop := ∀ (n : Int), AAF a n = O7 a n /\ AKL a n = ACG a n /\ AKF a n = ABI a n /\ X9 a n = AGM a n /\ ALZ a n = AJJ a n
abbrev S2 (a : CZ) : Prop := Br a = MB a
abbrev AIU (a : CZ) : Prop := ∀ (i : Nat), i < Br a -> AAY a i = ABN a i /\ S6 a i = AJT a i
abbrev P5 (a : CZ) : Prop := Bl a = eI a
abbrev AIP (a : CZ) : Prop := ∀ (i : Nat), i < Bl a -> AKM a i = AIA a i /\ AGC a i = ABO a i /\ AGK a i = Y1 a i /\ AFA a i = AES a i /\ ADX a i = U7
 a i
abbrev ADA (a : CZ) : Prop := ∀ (n : Int), ADL a n = Zf a n
abbrev V5 (a : CZ) : Prop := ∀ (n : Int), O7 a n = AAF a n /\ ACG a n = AKL a n /\ ABI a n = AKF a n /\ AGM a n = X9 a n /\ AJJ a n = ALZ a n
abbrev AGP (a : CZ) : Prop := 1 <= MB a
abbrev AIZ (a : CZ) : Prop := MB a <= 40
theorem CPP (a : CZ) : (CIQ a) = ((a.c.p.lo = a.c.p.lo /\ a.c.p.hi = a.c.p.hi /\ a.c.base = a.c.base /\ a.c.scale = a.c.scale /\ a.c.off = a.c.off /\ zR a = a.c.ms.length /\ (∀ (i : Nat), i < zR a ->
 (AXH a i).pl = (gD a.c.ms i).pl /\ (AXH a i).ht = (gD a.c.ms i).ht) /\ yL a = a.c.ns.length /\ (∀ (i : Nat), i < yL a -> (L6 a i).mi = (gD a.c.ns i).mi /\ (ARS a i).lo = (gD a.c.ns i).t.lo /\
 (ARS a i).hi = (gD a.c.ns i).t.hi /\ (AXM a i).lo = (gD a.c.ns i).s.lo /\ (AXM a i).hi = (gD a.c.ns i).s.hi) /\ uZ a = a.z.length /\ (∀ (i : Nat), i < uZ a -> gD (wY a) i = gD a.z i) /\
 (zR a < 4611686018427387904 /\ yL a < 4611686018427387904 /\ uZ a < 4611686018427387904) /\ AJ (ABR a) = 0) /\ bif T8 a != 0 then Value.pointer none = Value.pointer none /\ As /\
 Bo /\ As /\ Bo /\ AM a = T8 a else (Dt a /\ Bh a /\ Cp a /\ ZO a /\ ZT a /\ ADS a /\ AIC a /\ ACC a /\ AFC a /\ Bv a /\ AT = AT /\
 AKR a /\ Bj a /\ AJF a /\ Dt a /\ Bh a /\ Cp a /\ ZO a /\ ZT a /\ S2 a /\ AIU a /\ P5 a /\ AIP a /\ Bv a /\ AT = AT /\ ADA a /\ Bj a
 /\ V5 a /\ AGP a /\ AIZ a /\ ∀ (j : Int), Zf a j = true -> 0 <= j /\ j < (↑(MB a) : Int)) /\ bif !(AU (Dk.mk (Cht.mk (Zk a) (fQ a) (aT a) (bB a) (Zs a)
 (RJ a)) (PY a).st (PY a).sp)).snd then Value.pointer none = Value.pointer none /\ As /\ Bo /\ As /\ Bo /\ AM a = 6 else (Dt a /\ Bh a /\ Cp a /\ ZO
 a /\ ZT a /\ ADS a /\ AIC a /\ ACC a /\ AFC a /\ Bv a /\ AT = AT /\ AKR a /\ Bj a /\ AJF a /\ Dt a /\ Bh a /\ Cp a /\ ZO a /\ ZT a /\
 S2 a /\ AIU a /\ P5 a /\ AIP a /\ Bv a /\ AT = AT /\ ADA a /\ Bj a /\ V5 a /\ AGP a /\ AIZ a) /\ False) := by kernel_rfl
def CJA (a : CZ) : Prop := AW Try.prog CSX kA (AK kA) (xCZ a) (AF []) (C_rdX.val a) [] [] []
theorem CPR (a : CZ) : (CJA a) = ((a.c.p.lo = a.c.p.lo /\ a.c.p.hi = a.c.p.hi /\ a.c.base = a.c.base /\ a.c.scale = a.c.scale /\ a.c.off = a.c.off /\ (AE a.c.ms.length λ (i : Nat) => gD a.c.ms i).length =
 a.c.ms.length /\ (∀ (i : Nat), i < (AE a.c.ms.length λ (i : Nat) => gD a.c.ms i).length -> (gD (AE a.c.ms.length λ (i : Nat) => gD a.c.ms i) i).pl = (gD a.c.ms i).pl /\ (gD (AE a.c.ms.length λ (i : Nat) => gD
 a.c.ms i) i).ht = (gD a.c.ms i).ht) /\ (AE a.c.ns.length λ (i : Nat) => gD a.c.ns i).length = a.c.ns.length /\ (∀ (i : Nat), i < (AE a.c.ns.length λ (i : Nat) => gD a.c.ns i).length -> (gD (AE a.c.ns.length λ (i :
 Nat) => gD a.c.ns i) i).mi = (gD a.c.ns i).mi /\ (gD (AE a.c.ns.length λ (i : Nat) => gD a.c.ns i) i).t.lo = (gD a.c.ns i).t.lo /\ (gD (AE a.c.ns.length λ (i : Nat) => gD a.c.ns i) i).t.hi = (gD a.c.ns i).t.hi /\ (gD
 (AE a.c.ns.length λ (i : Nat) => gD a.c.ns i) i).s.lo = (gD a.c.ns i).s.lo /\ (gD (AE a.c.ns.length λ (i : Nat) => gD a.c.ns i) i).s.hi = (gD a.c.ns i).s.hi) /\ (AE a.z.length λ (i : Nat) => gD a.z i).length =
 a.z.length /\ (∀ (i : Nat), i < (AE a.z.length λ (i : Nat) => gD a.z i).length -> gD (AE a.z.length λ (i : Nat) => gD a.z i) i = gD a.z i) /\ ((AE a.c.ms.length λ (i : Nat) => gD a.c.ms i).length <
 4611686018427387904 /\ (AE a.c.ns.length λ (i : Nat) => gD a.c.ns i).length < 4611686018427387904 /\ (AE a.z.length λ (i : Nat) => gD a.z i).length < 4611686018427387904) /\ AJ (Cht.mk a.c.p a.c.base a.c.scale
 a.c.off (AE a.c.ms.length λ (i : Nat) => gD a.c.ms i) (AE a.c.ns.length λ (i : Nat) => gD a.c.ns i)) ≠ 0) /\ bif Bg (CZ.mk (Cht.mk a.c.p a.c.base a.c.scale a.c.off (AE a.c.ms.length λ (i : Nat) => gD a.c.ms i)
 (AE a.c.ns.length λ (i : Nat) => gD a.c.ns i)) (AE a.z.length λ (i : Nat) => gD a.z i)) != 0 then Value.pointer none = Value.pointer none /\ 0 = 0 /\ (∀ (i : Nat), i < 0 -> false = false) /\ 0 = 0 /\ (∀ (i : Nat), i < 0
 -> false = false) /\ AM a = Bg (CZ.mk (Cht.mk a.c.p a.c.base a.c.scale a.c.off (AE a.c.ms.length λ (i : Nat) => gD a.c.ms i) (AE a.c.ns.length λ (i : Nat) => gD a.c.ns i)) (AE a.z.length λ (i : Nat) => gD a.z
 i)) else False) := by kernel_rfl
theorem Rn (a : CZ) : Dk.mk a.c (AH a).st (AH a).sp = AH a := rfl
theorem aF {c : Cht} (h : AJ c = 0) : nsIn c /\ ∀ n ∈ c.ns, BW n c.ms.length = true := by
 obtain ⟨h1, ⟨h2, h3⟩, h4⟩ := EB h
 have hr : c.ns.all (λ n => BW n c.ms.length) = true := by
  cases hq : c.ns.all (λ n => BW n c.ms.length) with
  | true => rfl
  | false =>
   unfold AJ at h
   rw [h1, hq] at h
   cases hm : (mkC (-1) c.ms != 0) with
   | true =>
    rw [hm] at h
    have h : mkC (-1) c.ms = 0 := h
    rw [h] at hm; cases hm
   | false => rw [hm] at h; cases h
 refine ⟨λ j hj => ?_, λ n hn => List.all_eq_true.1 hr n hn⟩
 unfold hasN at hj
 obtain ⟨x, hx, e⟩ := List.any_eq_true.1 hj
 have e : x.mi = j := by simpa using e
 have := List.all_eq_true.1 hr x hx
 unfold BW GT wr at this
 rw [CP (by omega) (by omega)] at this
 simp only [Bool.and_eq_true, decide_eq_true_eq] at this
 omega
theorem XD {a : CZ} (h : AM a = 0) : AJ a.c = 0 /\ okZ a = true /\ (AU (AH a)).2 = true := by
 unfold AM at h
 cases h1 : (AJ a.c == 0) with
 | false => rw [h1] at h; have h : AJ a.c = 0 := h; rw [h] at h1; cases h1
 | true =>
  rw [h1] at h
  cases h2 : okZ a with
  | false => rw [h2] at h; cases h
  | true =>
   rw [h2] at h
   cases h3 : (AU (AH a)).2 with
   | false => rw [h3] at h; cases h
   | true => exact ⟨by simpa using h1, rfl, rfl⟩
theorem BRL : AL Try.prog TA (C_rdO.spec dCZ) := KV C_rdO (λ _ => A_rd) [(0, 2032), (1, 2033)] [] BRV (λ _ => by kernel_rfl) (λ _ => AD CGU (AD zI (AD BRY AI))) (λ (a : CZ) h => by
 obtain ⟨h1, h2⟩ : (a.c.ms.length < 4611686018427387904 /\ a.c.ns.length < 4611686018427387904 /\ a.z.length < 4611686018427387904) /\ AM a = 0 := h
 obtain ⟨c0, c1, c2⟩ := XD h2
 have e : Bg a = 0 := by unfold Bg; rw [c0, c1]; rfl
 have hl := EB c0
 have hn := (aF c0).1
 show CSF a; rw [CVP]; delta AQC AOR BQF AOW APF ANO BTP BKA AOP APB BCG AXY Co SG J0 zC Ri F0 Kg Vd Me Mo Kv Xr Tc ASK Cz zP C5 TU AQP BBJ AZW A2 AZP E0 BHZ Ti Bm Mi Dl vV AYF vT BGU J7 AYZ BDF BAQ B8 BAX zJ BHU BCR BAS zQ AWJ tZ BHM xZ Sx K7 vM BFJ F4 Qg zD AXE vI wB BGL AVS AUU wT AWH A8 BCN AYS BCJ J1 AYK yM BCF BDP BAO AVQ BFE AWR AUE AYI ATR AQU AXK BHO BIK AVJ AYY BDA; simp only [CC, eq_self, implies_true, forall_const, BH, YR, Xx, TE, Rn, e, c2]
 exact ⟨⟨h1, c0⟩, (λ h => by simp at h), λ _ => ⟨⟨by omega, by omega, hn⟩, (λ h => by cases h), by omega, by omega⟩⟩) (λ _ => MD rfl rfl) _
theorem BQM : AL Try.prog TA (C_rdX.spec dCZ) := okT C_rdX (λ (a : CZ) h => by
 obtain ⟨h1, h2⟩ : (a.c.ms.length < 4611686018427387904 /\ a.c.ns.length < 4611686018427387904 /\ a.z.length < 4611686018427387904) /\ AM a ≠ 0 := h
 by_cases c0 : AJ a.c = 0
 ·have e : Bg a = bif okZ a then 0 else 2 := by unfold Bg; rw [c0]; rfl
  have e2 : AM a = bif okZ a then bif (AU (AH a)).2 then 0 else 6 else 2 := by unfold AM; rw [c0]; rfl
  have hl := EB c0
  have hn := (aF c0).1
  refine QX (A := A_rd) (L := []) (keep := []) (ren := []) (fz := []) BRV (by kernel_rfl) (AD CGU (AD zI (AD BRY AI))) ?_
  show CIQ a; rw [CPP]; delta G7 zR AXH E7 yL L6 ARS AXM wY uZ ABR AKT T8 As Bo PY MJ Zk O6 Dt AJK Bh fQ Cp aT ZO bB ZT ALO Br aJ Zs MB ADS M3 ABN AAY AJT S6 AIC ZG Bl YX RJ eI ACC aU AIA AKM AGF ABO ABG AGC Y1 AGK ADF AES AGJ AFA U7 ADX AFC AAQ Bv Zf ADL AKR AEL Bj Yz AAF eH O7 AFZ AKL Y3 ACG AKF ABI AFE X9 ALH AGM ALZ AJJ AJF S2 AIU P5 AIP ADA V5 AGP AIZ; simp only [CC, eq_self, implies_true, forall_const, BH, YR, Xx, TE, Rn, e]
  rw [e2] at h2 ⊢
  refine ⟨⟨h1, c0⟩, ?_⟩
  cases ho : okZ a with
  | false => exact ⟨λ _ => rfl, λ h => by simp at h⟩
  | true =>
   rw [ho] at h2
   cases hq : (AU (AH a)).2 with
   | false => exact ⟨λ h => by simp at h, λ _ => ⟨⟨by omega, by omega, hn⟩, λ _ => rfl, λ h => by cases h⟩⟩
   | true => rw [hq] at h2; exact absurd rfl h2
 ·have c0' : (AJ a.c == 0) = false := by simpa using c0
  have e : Bg a = AJ a.c := by unfold Bg; rw [c0']; rfl
  have e2 : AM a = AJ a.c := by unfold AM; rw [c0']; rfl
  refine QX (A := CSX) (L := []) (keep := []) (ren := []) (fz := []) BRV (by kernel_rfl) (AD CNH AI) ?_
  show CJA a; rw [CPR]; simp only [CC, eq_self, implies_true, forall_const, BH, TE, e, e2]
  simp [h1, c0]) _
def IT (a : CZ) : List Span × Int := bif AM a == 0 then ((AU (AH a)).1, 0) else ([], AM a)
def C_Times : Ctr := { α := CZ, xs := xCZ, val := λ a => .tup [.d (AV (IT a).1), .int (IT a).2], keep := λ _ => [], pre := λ a => [a.c.ms.length < 4611686018427387904 /\ a.c.ns.length < 4611686018427387904 /\ a.z.length < 4611686018427387904] }
def CSB : Ann := ann 20 [(TA, C_rdO.spec dCZ)]
def CQO : Ann := ann 20 [(TA, C_rdX.spec dCZ)]
def CQF (a : CZ) : Prop := AW Try.prog CSB A0 (AK A0) (xCZ a) (AF []) (.tup [.d (AV (AU (AH a)).1), .int 0]) [] [] []
theorem CTJ (a : CZ) : (CQF a) = ((a.c.p.lo = a.c.p.lo /\ a.c.p.hi = a.c.p.hi /\ a.c.base = a.c.base /\ a.c.scale = a.c.scale /\ a.c.off = a.c.off /\ (AE a.c.ms.length λ (i : Nat) => gD a.c.ms i).length =
 a.c.ms.length /\ (∀ (i : Nat), i < (AE a.c.ms.length λ (i : Nat) => gD a.c.ms i).length -> (gD (AE a.c.ms.length λ (i : Nat) => gD a.c.ms i) i).pl = (gD a.c.ms i).pl /\ (gD (AE a.c.ms.length λ (i : Nat) => gD
 a.c.ms i) i).ht = (gD a.c.ms i).ht) /\ (AE a.c.ns.length λ (i : Nat) => gD a.c.ns i).length = a.c.ns.length /\ (∀ (i : Nat), i < (AE a.c.ns.length λ (i : Nat) => gD a.c.ns i).length -> (gD (AE a.c.ns.length λ (i :
 Nat) => gD a.c.ns i) i).mi = (gD a.c.ns i).mi /\ (gD (AE a.c.ns.length λ (i : Nat) => gD a.c.ns i) i).t.lo = (gD a.c.ns i).t.lo /\ (gD (AE a.c.ns.length λ (i : Nat) => gD a.c.ns i) i).t.hi = (gD a.c.ns i).t.hi /\ (gD
 (AE a.c.ns.length λ (i : Nat) => gD a.c.ns i) i).s.lo = (gD a.c.ns i).s.lo /\ (gD (AE a.c.ns.length λ (i : Nat) => gD a.c.ns i) i).s.hi = (gD a.c.ns i).s.hi) /\ (AE a.z.length λ (i : Nat) => gD a.z i).length =
 a.z.length /\ (∀ (i : Nat), i < (AE a.z.length λ (i : Nat) => gD a.z i).length -> gD (AE a.z.length λ (i : Nat) => gD a.z i) i = gD a.z i) /\ ((AE a.c.ms.length λ (i : Nat) => gD a.c.ms i).length <
 (4611686018427387904 : Nat) /\ (AE a.c.ns.length λ (i : Nat) => gD a.c.ns i).length < (4611686018427387904 : Nat) /\ (AE a.z.length λ (i : Nat) => gD a.z i).length < (4611686018427387904 : Nat)) /\ AM (CZ.mk
 (Cht.mk a.c.p a.c.base a.c.scale a.c.off (AE a.c.ms.length λ (i : Nat) => gD a.c.ms i) (AE a.c.ns.length λ (i : Nat) => gD a.c.ns i)) (AE a.z.length λ (i : Nat) => gD a.z i)) = (0 : Int)) /\ (AU (AH
 a)).fst.length = (AU (AH (CZ.mk (Cht.mk a.c.p a.c.base a.c.scale a.c.off (AE a.c.ms.length λ (i : Nat) => gD a.c.ms i) (AE a.c.ns.length λ (i : Nat) => gD a.c.ns i)) (AE a.z.length λ (i : Nat) => gD a.z
 i)))).fst.length /\ (∀ (i : Nat), i < (AU (AH a)).fst.length -> (gD (AU (AH a)).fst i).lo = (gD (AU (AH (CZ.mk (Cht.mk a.c.p a.c.base a.c.scale a.c.off (AE a.c.ms.length λ (i : Nat) => gD a.c.ms i)
 (AE a.c.ns.length λ (i : Nat) => gD a.c.ns i)) (AE a.z.length λ (i : Nat) => gD a.z i)))).fst i).lo /\ (gD (AU (AH a)).fst i).hi = (gD (AU (AH (CZ.mk (Cht.mk a.c.p a.c.base a.c.scale a.c.off (AE
 a.c.ms.length λ (i : Nat) => gD a.c.ms i) (AE a.c.ns.length λ (i : Nat) => gD a.c.ns i)) (AE a.z.length λ (i : Nat) => gD a.z i)))).fst i).hi) /\ Int.ofNat (0 : Nat) = Int.ofNat (0 : Nat)) := by kernel_rfl
def CTE (a : CZ) : Prop := AW Try.prog CQO A0 (AK A0) (xCZ a) (AF []) (.tup [.d (AV nilS), .int (AM a)]) [] [] []
theorem CVB (a : CZ) : (CTE a) = ((a.c.p.lo = a.c.p.lo /\ a.c.p.hi = a.c.p.hi /\ a.c.base = a.c.base /\ a.c.scale = a.c.scale /\ a.c.off = a.c.off /\ (AE a.c.ms.length λ (i : Nat) => gD a.c.ms i).length =
 a.c.ms.length /\ (∀ (i : Nat), i < (AE a.c.ms.length λ (i : Nat) => gD a.c.ms i).length -> (gD (AE a.c.ms.length λ (i : Nat) => gD a.c.ms i) i).pl = (gD a.c.ms i).pl /\ (gD (AE a.c.ms.length λ (i : Nat) => gD
 a.c.ms i) i).ht = (gD a.c.ms i).ht) /\ (AE a.c.ns.length λ (i : Nat) => gD a.c.ns i).length = a.c.ns.length /\ (∀ (i : Nat), i < (AE a.c.ns.length λ (i : Nat) => gD a.c.ns i).length -> (gD (AE a.c.ns.length λ (i :
 Nat) => gD a.c.ns i) i).mi = (gD a.c.ns i).mi /\ (gD (AE a.c.ns.length λ (i : Nat) => gD a.c.ns i) i).t.lo = (gD a.c.ns i).t.lo /\ (gD (AE a.c.ns.length λ (i : Nat) => gD a.c.ns i) i).t.hi = (gD a.c.ns i).t.hi /\ (gD
 (AE a.c.ns.length λ (i : Nat) => gD a.c.ns i) i).s.lo = (gD a.c.ns i).s.lo /\ (gD (AE a.c.ns.length λ (i : Nat) => gD a.c.ns i) i).s.hi = (gD a.c.ns i).s.hi) /\ (AE a.z.length λ (i : Nat) => gD a.z i).length =
 a.z.length /\ (∀ (i : Nat), i < (AE a.z.length λ (i : Nat) => gD a.z i).length -> gD (AE a.z.length λ (i : Nat) => gD a.z i) i = gD a.z i) /\ ((AE a.c.ms.length λ (i : Nat) => gD a.c.ms i).length <
 4611686018427387904 /\ (AE a.c.ns.length λ (i : Nat) => gD a.c.ns i).length < 4611686018427387904 /\ (AE a.z.length λ (i : Nat) => gD a.z i).length < 4611686018427387904) /\ AM (CZ.mk (Cht.mk a.c.p a.c.base
 a.c.scale a.c.off (AE a.c.ms.length λ (i : Nat) => gD a.c.ms i) (AE a.c.ns.length λ (i : Nat) => gD a.c.ns i)) (AE a.z.length λ (i : Nat) => gD a.z i)) ≠ 0) /\ 0 = 0 /\ 0 = 0 /\ AM a = AM (CZ.mk (Cht.mk a.c.p
 a.c.base a.c.scale a.c.off (AE a.c.ms.length λ (i : Nat) => gD a.c.ms i) (AE a.c.ns.length λ (i : Nat) => gD a.c.ns i)) (AE a.z.length λ (i : Nat) => gD a.z i))) := by kernel_rfl
theorem AUZ : AL Try.prog AQH (C_Times.spec dCZ) := okT C_Times (λ (a : CZ) h => by
 have h1 : a.c.ms.length < 4611686018427387904 /\ a.c.ns.length < 4611686018427387904 /\ a.z.length < 4611686018427387904 := h
 by_cases c0 : AM a = 0
 ·have e : C_Times.val a = .tup [.d (AV (AU (AH a)).1), .int 0] := by
   show AVal.tup [.d (AV (IT a).1), .int (IT a).2] = _
   unfold IT; rw [c0]; rfl
  rw [e]
  refine QX (A := CSB) (L := []) (keep := []) (ren := []) (fz := []) BUX (by kernel_rfl) (AD BRL AI) ?_
  show CQF a; rw [CTJ]; simp only [CC, eq_self, implies_true, forall_const, BH, TE]
  simp [h1, c0]
 ·have c0' : (AM a == 0) = false := by simpa using c0
  have e : C_Times.val a = .tup [.d (AV nilS), .int (AM a)] := by
   show AVal.tup [.d (AV (IT a).1), .int (IT a).2] = _
   unfold IT; rw [c0']; rfl
  rw [e]
  refine QX (A := CQO) (L := []) (keep := []) (ren := []) (fz := []) BUX (by kernel_rfl) (AD BQM AI) ?_
  show CTE a; rw [CVB]; simp only [CC, eq_self, implies_true, forall_const, BH, TE]
  simp [h1, c0, nilS]) _
end Go.Bal
