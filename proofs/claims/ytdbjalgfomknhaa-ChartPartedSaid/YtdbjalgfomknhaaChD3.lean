/- Package chart: times. -/
import Derived.Test.YtdbjalgfomknhaaChD2
set_option linter.unusedVariables false
set_option linter.unusedSimpArgs false
namespace Go.Bal
open Go Go.Sym Go.Proofs
def AU (w : Dk) : List Span × Bool := bif stgOk w.c then (KV w (Hb w.c), (KV w (Hb w.c)).all JB) else ([], false)
def C_times : Ctr := { ro := [100, 101], α := Dk, xs := λ _ => [.bptr 100 0], L := λ w => dkL w, val := λ w => .tup [.d (AX (AU w).1), .bool (AU w).2], keep := λ w => dkK w, pre := λ w => [1 <= w.c.ms.length /\ w.c.ms.length <= 40 /\ nsIn w.c] }
def CEO : Ann := { ann 19 [(BWS, C_all.spec dDk1), (BTZ, C_not.spec dDk1), (UT, C_nar.spec dDkS)] with E := [100, 101] }
def CEA (w : Dk) : Prop := BB Try.prog CEO BLX (AL BLX) (C_times.xs w) (AG (C_times.L w)) (C_times.val w) (C_times.keep w) [] []
abbrev JU (w : Dk) : Prop := w.c.p.lo = w.c.p.lo
abbrev KI (w : Dk) : Prop := w.c.p.hi = w.c.p.hi
abbrev eM (w : Dk) : List Mk := AE w.c.ms.length λ (i : Nat) => gD w.c.ms i
abbrev JW (w : Dk) : Nat := (eM w).length
abbrev dF (w : Dk) : Prop := JW w = w.c.ms.length
abbrev ACG (w : Dk) (i : Nat) : Mk := gD (eM w) i
abbrev AAN (w : Dk) (i : Nat) : Int := (ACG w i).pl
abbrev R6 (w : Dk) (i : Nat) : Int := (ACG w i).ht
abbrev Yj (w : Dk) : Prop := ∀ (i : Nat), i < JW w -> AAN w i = (gD w.c.ms i).pl /\ R6 w i = (gD w.c.ms i).ht
abbrev QY (w : Dk) : List Nt := AE w.c.ns.length λ (i : Nat) => gD w.c.ns i
abbrev Gf (w : Dk) : Nat := (QY w).length
abbrev Fc (w : Dk) : Prop := Gf w = w.c.ns.length
abbrev Dy (w : Dk) (i : Nat) : Nt := gD (QY w) i
abbrev lO (w : Dk) (i : Nat) : Int := (Dy w i).mi
abbrev pT (w : Dk) (i : Nat) : Span := (Dy w i).t
abbrev lR (w : Dk) (i : Nat) : Int := (pT w i).lo
abbrev fZ (w : Dk) (i : Nat) : Int := (pT w i).hi
abbrev mY (w : Dk) (i : Nat) : Span := (Dy w i).s
abbrev qL (w : Dk) (i : Nat) : Int := (mY w i).lo
abbrev nI (w : Dk) (i : Nat) : Int := (mY w i).hi
abbrev Gj (w : Dk) : Prop := ∀ (i : Nat), i < Gf w -> lO w i = (gD w.c.ns i).mi /\ lR w i = (gD w.c.ns i).t.lo /\ fZ w i = (gD w.c.ns i).t.hi /\ qL w i = (gD w.c.ns i).s.lo /\
 nI w i = (gD w.c.ns i).s.hi
abbrev IF (w : Dk) : Prop := ∀ (i : Nat), i < 40 -> w.sp i = w.sp i
abbrev Ja (w : Dk) (n : Int) : Bool := hasN (QY w) n
abbrev Fg (w : Dk) : Prop := ∀ (n : Int), Ja w n = hasN w.c.ns n
abbrev IG (w : Dk) : Prop := ∀ (n : Int), w.st n = w.st n
abbrev Fv (w : Dk) (n : Int) : Nt := ntOf (QY w) n
abbrev iC (w : Dk) (n : Int) : Int := (Fv w n).mi
abbrev qX (w : Dk) (n : Int) : Span := (Fv w n).t
abbrev rW (w : Dk) (n : Int) : Int := (qX w n).lo
abbrev nN (w : Dk) (n : Int) : Int := (qX w n).hi
abbrev fX (w : Dk) (n : Int) : Span := (Fv w n).s
abbrev oR (w : Dk) (n : Int) : Int := (fX w n).lo
abbrev kU (w : Dk) (n : Int) : Int := (fX w n).hi
abbrev Fo (w : Dk) : Prop := ∀ (n : Int), iC w n = (ntOf w.c.ns n).mi /\ rW w n = (ntOf w.c.ns n).t.lo /\ nN w n = (ntOf w.c.ns n).t.hi /\ oR w n = (ntOf w.c.ns n).s.lo /\ kU w
 n = (ntOf w.c.ns n).s.hi
abbrev Hc (w : Dk) : Prop := w.c.ms.length = JW w
abbrev Ey (w : Dk) : Prop := ∀ (i : Nat), i < w.c.ms.length -> (gD w.c.ms i).pl = AAN w i /\ (gD w.c.ms i).ht = R6 w i
abbrev Fw (w : Dk) : Prop := w.c.ns.length = Gf w
abbrev Dv (w : Dk) : Prop := ∀ (i : Nat), i < w.c.ns.length -> (gD w.c.ns i).mi = lO w i /\ (gD w.c.ns i).t.lo = lR w i /\ (gD w.c.ns i).t.hi = fZ w i /\ (gD w.c.ns i).s.lo = qL w i /\
 (gD w.c.ns i).s.hi = nI w i
abbrev Gu (w : Dk) : Prop := ∀ (n : Int), hasN w.c.ns n = Ja w n
abbrev Fj (w : Dk) : Prop := ∀ (n : Int), (ntOf w.c.ns n).mi = iC w n /\ (ntOf w.c.ns n).t.lo = rW w n /\ (ntOf w.c.ns n).t.hi = nN w n /\ (ntOf w.c.ns n).s.lo = oR w n /\ (ntOf w.c.ns
 n).s.hi = kU w n
abbrev jR (w : Dk) : Prop := 1 <= JW w
abbrev oF (w : Dk) : Prop := JW w <= 40
abbrev nM (w : Dk) : Prop := jR w /\ oF w
abbrev Gn (w : Dk) : Cht := Cht.mk w.c.p w.c.base w.c.scale w.c.off (eM w) (QY w)
abbrev iH (w : Dk) : Prop := (AU w).fst.length = 0
abbrev qF (w : Dk) : Prop := JU w /\ KI w /\ w.c.base = w.c.base /\ w.c.scale = w.c.scale /\ w.c.off = w.c.off /\ w.c.ms.length = w.c.ms.length /\ (∀ (i : Nat), i < w.c.ms.length -> (gD w.c.ms i).pl = (gD
 w.c.ms i).pl /\ (gD w.c.ms i).ht = (gD w.c.ms i).ht) /\ w.c.ns.length = w.c.ns.length /\ (∀ (i : Nat), i < w.c.ns.length -> (gD w.c.ns i).mi = (gD w.c.ns i).mi /\ (gD w.c.ns i).t.lo = (gD w.c.ns i).t.lo /\ (gD w.c.ns i).t.hi =
 (gD w.c.ns i).t.hi /\ (gD w.c.ns i).s.lo = (gD w.c.ns i).s.lo /\ (gD w.c.ns i).s.hi = (gD w.c.ns i).s.hi) /\ IF w /\ AT = AT /\ (∀ (n : Int), hasN w.c.ns n = hasN w.c.ns n) /\ IG w /\ ∀ (n : Int), (ntOf w.c.ns
 n).mi = (ntOf w.c.ns n).mi /\ (ntOf w.c.ns n).t.lo = (ntOf w.c.ns n).t.lo /\ (ntOf w.c.ns n).t.hi = (ntOf w.c.ns n).t.hi /\ (ntOf w.c.ns n).s.lo = (ntOf w.c.ns n).s.lo /\ (ntOf w.c.ns n).s.hi = (ntOf w.c.ns n).s.hi
abbrev lH (w : Dk) : List Span := Hb (Gn w)
abbrev pN (w : Dk) : Nat := (lH w).length
abbrev Hj (w : Dk) (i : Nat) : Span := gD (lH w) i
abbrev Il (w : Dk) : List Span := AE (pN w) λ (i : Nat) => Hj w i
abbrev Fx (w : Dk) : Nat := (Il w).length
abbrev rX (w : Dk) (i : Nat) : Span := gD (Il w) i
abbrev Dm (w : Dk) : List Span := KV (Dk.mk (Gn w) w.st w.sp) (Il w)
abbrev sW (w : Dk) (i : Nat) : Span := gD (AU w).fst i
abbrev iS (w : Dk) (i : Nat) : Span := gD (Dm w) i
theorem CKL (w : Dk) : (CEA w) = ((JU w /\ KI w /\ w.c.base = w.c.base /\ w.c.scale = w.c.scale /\ w.c.off = w.c.off /\ dF w /\ Yj w /\ Fc w /\ Gj w /\ IF w /\ AT = AT
 /\ Fg w /\ IG w /\ Fo w /\ JU w /\ KI w /\ w.c.base = w.c.base /\ w.c.scale = w.c.scale /\ w.c.off = w.c.off /\ Hc w /\ Ey w /\ Fw w /\ Dv w /\ IF w /\ AT
 = AT /\ Gu w /\ IG w /\ Fj w /\ nM w) /\ bif !stgOk (Gn w) then iH w /\ iH w /\ (AU w).snd = false /\ qF w else (JU w /\ KI w /\ w.c.base =
 w.c.base /\ w.c.scale = w.c.scale /\ w.c.off = w.c.off /\ dF w /\ Yj w /\ Fc w /\ Gj w /\ IF w /\ AT = AT /\ Fg w /\ IG w /\ Fo w /\ JU w /\ KI w /\
 w.c.base = w.c.base /\ w.c.scale = w.c.scale /\ w.c.off = w.c.off /\ Hc w /\ Ey w /\ Fw w /\ Dv w /\ IF w /\ AT = AT /\ Gu w /\ IG w /\ Fj w /\ (jR w /\
 oF w /\ ∀ (j : Int), Ja w j = true -> 0 <= j /\ j < (↑(JW w) : Int)) /\ Fx w = pN w /\ (∀ (i : Nat), i < Fx w -> (rX w i).lo = (Hj w i).lo /\ (rX w i).hi =
 (Hj w i).hi) /\ JU w /\ KI w /\ w.c.base = w.c.base /\ w.c.scale = w.c.scale /\ w.c.off = w.c.off /\ dF w /\ Yj w /\ Fc w /\ Gj w /\ IF w /\ AT = AT /\ Fg w /\
 IG w /\ Fo w /\ JU w /\ KI w /\ w.c.base = w.c.base /\ w.c.scale = w.c.scale /\ w.c.off = w.c.off /\ Hc w /\ Ey w /\ Fw w /\ Dv w /\ IF w /\ AT = AT /\
 Gu w /\ IG w /\ Fj w /\ Fx w = JW w /\ nM w) /\ (AU w).fst.length = (Dm w).length /\ (∀ (i : Nat), i < (AU w).fst.length -> (sW w i).lo = (iS w
 i).lo /\ (sW w i).hi = (iS w i).hi) /\ (AU w).snd = (Dm w).all JB /\ qF w) := by kernel_rfl
theorem SX (a : CZ) : CZ.mk a.c a.z = a := rfl
theorem FM (c : Cht) : (Hb c).length = c.ms.length := rng_length _ _
theorem vL : AM Try.prog yK (C_times.spec dDk1) := LM C_times (λ _ => CEO) [] [] CHI (λ _ => by kernel_rfl) (λ _ => AC BQR (AC CXO (AC CAK AJ))) (λ (w : Dk) h => by
 obtain ⟨h1, h2, h3⟩ : 1 <= w.c.ms.length /\ w.c.ms.length <= 40 /\ nsIn w.c := h
 show CEA w; rw [CKL]; delta JU KI eM JW dF ACG AAN R6 Yj QY Gf Fc Dy lO pT lR fZ mY qL nI Gj IF Ja Fg IG Fv iC qX rW nN fX oR kU Fo Hc Ey Fw Dv Gu Fj jR oF nM Gn iH qF lH pN Hj Il Fx rX Dm sW iS; simp only [CC, eq_self, implies_true, forall_const, CB, YF]
 refine ⟨⟨h1, h2⟩, λ h => ?_, λ h => ⟨⟨⟨h1, h2, h3⟩, FM _, h1, h2⟩, ?_⟩⟩
 ·unfold AU; rw [h]; exact ⟨rfl, rfl, rfl⟩
 ·unfold AU; rw [h]; exact ⟨rfl, λ _ _ => ⟨rfl, rfl⟩, rfl⟩) (λ _ => OA rfl rfl) _
def AS (a : CZ) : Int := bif AK a.c == 0 then bif okZ a then bif (AU (AI a)).2 then 0 else 6 else 2 else AK a.c
def C_rdO : Ctr := { α := CZ, xs := xCZ, val := λ a => .tup [.bptr 0 0, .d (AX (AU (AI a)).1), .d (AX (stgL a.c)), .int 0], keep := λ a => dkN (AI a), pre := λ a => [(a.c.ms.length < 4611686018427387904 /\ a.c.ns.length < 4611686018427387904 /\ a.z.length < 4611686018427387904) /\ AS a = 0] }
def C_rdX : Ctr := { α := CZ, xs := xCZ, val := λ a => .tup [.d (.v (.pointer none)), .d GC, .d GC, .int (AS a)], keep := λ _ => [], pre := λ a => [(a.c.ms.length < 4611686018427387904 /\ a.c.ns.length < 4611686018427387904 /\ a.z.length < 4611686018427387904) /\ AS a ≠ 0] }
def A_rd : Ann := ann 38 [(xQ, C_beg.spec dCZ), (yK, C_times.spec dDk1), (BWS, C_all.spec dDk1)]
def CTS : Ann := ann 38 [(xQ, C_begX.spec dCZ)]
def CRU (a : CZ) : Prop := BB Try.prog A_rd qG (AL qG) (xCZ a) (AG []) (C_rdO.val a) (C_rdO.keep a) [(0, 2032), (1, 2033)] []
abbrev APP (a : CZ) : List Mk := AE a.c.ms.length λ (i : Nat) => gD a.c.ms i
abbrev APV (a : CZ) : Nat := (APP a).length
abbrev BVV (a : CZ) (i : Nat) : Mk := gD (APP a) i
abbrev APB (a : CZ) : List Nt := AE a.c.ns.length λ (i : Nat) => gD a.c.ns i
abbrev AMO (a : CZ) : Nat := (APB a).length
abbrev ANL (a : CZ) (i : Nat) : Nt := gD (APB a) i
abbrev BOP (a : CZ) (i : Nat) : Span := (ANL a i).t
abbrev BRW (a : CZ) (i : Nat) : Span := (ANL a i).s
abbrev ANO (a : CZ) : List Int := AE a.z.length λ (i : Nat) => gD a.z i
abbrev ANS (a : CZ) : Nat := (ANO a).length
abbrev BHZ (a : CZ) : Cht := Cht.mk a.c.p a.c.base a.c.scale a.c.off (APP a) (APB a)
abbrev BIH (a : CZ) : CZ := CZ.mk (BHZ a) (ANO a)
abbrev Ak (a : CZ) : Dk := AI (BIH a)
abbrev RW (a : CZ) : Cht := (Ak a).c
abbrev zN (a : CZ) : Span := (RW a).p
abbrev L1 (a : CZ) : Int := (zN a).lo
abbrev Qi (a : CZ) : Prop := L1 a = L1 a
abbrev zK (a : CZ) : Int := (zN a).hi
abbrev Kj (a : CZ) : Prop := zK a = zK a
abbrev Lp (a : CZ) : Int := (RW a).base
abbrev Sl (a : CZ) : Prop := Lp a = Lp a
abbrev Ts (a : CZ) : Int := (RW a).scale
abbrev Qe (a : CZ) : Prop := Ts a = Ts a
abbrev Ui (a : CZ) : Int := (RW a).off
abbrev Wo (a : CZ) : Prop := Ui a = Ui a
abbrev BBX (a : CZ) : List Mk := (RW a).ms
abbrev Cz (a : CZ) : Nat := (BBX a).length
abbrev D7 (a : CZ) (i : Nat) : Mk := gD (BBX a) i
abbrev G6 (a : CZ) : List Mk := AE (Cz a) λ (i : Nat) => D7 a i
abbrev RV (a : CZ) : Nat := (G6 a).length
abbrev AWH (a : CZ) : Prop := RV a = Cz a
abbrev AWE (a : CZ) (i : Nat) : Mk := gD (G6 a) i
abbrev AUQ (a : CZ) (i : Nat) : Int := (AWE a i).pl
abbrev F4 (a : CZ) (i : Nat) : Int := (D7 a i).pl
abbrev AVF (a : CZ) (i : Nat) : Int := (AWE a i).ht
abbrev wU (a : CZ) (i : Nat) : Int := (D7 a i).ht
abbrev BEZ (a : CZ) : Prop := ∀ (i : Nat), i < RV a -> AUQ a i = F4 a i /\ AVF a i = wU a i
abbrev Kv (a : CZ) : List Nt := (RW a).ns
abbrev ZR (a : CZ) : Nat := (Kv a).length
abbrev Uu (a : CZ) (i : Nat) : Nt := gD (Kv a) i
abbrev Bf (a : CZ) : List Nt := AE (ZR a) λ (i : Nat) => Uu a i
abbrev A7 (a : CZ) : Nat := (Bf a).length
abbrev BGW (a : CZ) : Prop := A7 a = ZR a
abbrev wZ (a : CZ) (i : Nat) : Nt := gD (Bf a) i
abbrev BFT (a : CZ) (i : Nat) : Int := (wZ a i).mi
abbrev C5 (a : CZ) (i : Nat) : Int := (Uu a i).mi
abbrev AWD (a : CZ) (i : Nat) : Span := (wZ a i).t
abbrev ATD (a : CZ) (i : Nat) : Int := (AWD a i).lo
abbrev BGV (a : CZ) (i : Nat) : Span := (Uu a i).t
abbrev xS (a : CZ) (i : Nat) : Int := (BGV a i).lo
abbrev AWA (a : CZ) (i : Nat) : Int := (AWD a i).hi
abbrev vP (a : CZ) (i : Nat) : Int := (BGV a i).hi
abbrev BAQ (a : CZ) (i : Nat) : Span := (wZ a i).s
abbrev BCY (a : CZ) (i : Nat) : Int := (BAQ a i).lo
abbrev BFA (a : CZ) (i : Nat) : Span := (Uu a i).s
abbrev vV (a : CZ) (i : Nat) : Int := (BFA a i).lo
abbrev BGG (a : CZ) (i : Nat) : Int := (BAQ a i).hi
abbrev wA (a : CZ) (i : Nat) : Int := (BFA a i).hi
abbrev BDO (a : CZ) : Prop := ∀ (i : Nat), i < A7 a -> BFT a i = C5 a i /\ ATD a i = xS a i /\ AWA a i = vP a i /\ BCY a i = vV a i /\ BGG a i = wA a i
abbrev A4 (a : CZ) (i : Nat) : Bool := (Ak a).sp i
abbrev Vx (a : CZ) : Prop := ∀ (i : Nat), i < (40 : Nat) -> A4 a i = A4 a i
abbrev J3 (a : CZ) (n : Int) : Bool := hasN (Bf a) n
abbrev N3 (a : CZ) (n : Int) : Bool := hasN (Kv a) n
abbrev BDU (a : CZ) : Prop := ∀ (n : Int), J3 a n = N3 a n
abbrev J0 (a : CZ) (n : Int) : Int := (Ak a).st n
abbrev Rd (a : CZ) : Prop := ∀ (n : Int), J0 a n = J0 a n
abbrev wC (a : CZ) (n : Int) : Nt := ntOf (Bf a) n
abbrev BCA (a : CZ) (n : Int) : Int := (wC a n).mi
abbrev xK (a : CZ) (n : Int) : Nt := ntOf (Kv a) n
abbrev wV (a : CZ) (n : Int) : Int := (xK a n).mi
abbrev AZP (a : CZ) (n : Int) : Span := (wC a n).t
abbrev BIG (a : CZ) (n : Int) : Int := (AZP a n).lo
abbrev ASJ (a : CZ) (n : Int) : Span := (xK a n).t
abbrev uR (a : CZ) (n : Int) : Int := (ASJ a n).lo
abbrev BIX (a : CZ) (n : Int) : Int := (AZP a n).hi
abbrev L6 (a : CZ) (n : Int) : Int := (ASJ a n).hi
abbrev BGX (a : CZ) (n : Int) : Span := (wC a n).s
abbrev BBA (a : CZ) (n : Int) : Int := (BGX a n).lo
abbrev AWK (a : CZ) (n : Int) : Span := (xK a n).s
abbrev L0 (a : CZ) (n : Int) : Int := (AWK a n).lo
abbrev BAA (a : CZ) (n : Int) : Int := (BGX a n).hi
abbrev wB (a : CZ) (n : Int) : Int := (AWK a n).hi
abbrev ASX (a : CZ) : Prop := ∀ (n : Int), BCA a n = wV a n /\ BIG a n = uR a n /\ BIX a n = L6 a n /\ BBA a n = L0 a n /\ BAA a n = wB a n
abbrev BDD (a : CZ) : Prop := Cz a = RV a
abbrev BHR (a : CZ) : Prop := ∀ (i : Nat), i < Cz a -> F4 a i = AUQ a i /\ wU a i = AVF a i
abbrev AUN (a : CZ) : Prop := ZR a = A7 a
abbrev AVV (a : CZ) : Prop := ∀ (i : Nat), i < ZR a -> C5 a i = BFT a i /\ xS a i = ATD a i /\ vP a i = AWA a i /\ vV a i = BCY a i /\ wA a i = BGG a i
abbrev BCU (a : CZ) : Prop := ∀ (n : Int), N3 a n = J3 a n
abbrev BHG (a : CZ) : Prop := ∀ (n : Int), wV a n = BCA a n /\ uR a n = BIG a n /\ L6 a n = BIX a n /\ L0 a n = BBA a n /\ wB a n = BAA a n
abbrev BHQ (a : CZ) : Prop := (1 : Nat) <= RV a
abbrev ARS (a : CZ) : Prop := RV a <= (40 : Nat)
abbrev BCS (a : CZ) : Cht := Cht.mk (zN a) (Lp a) (Ts a) (Ui a) (G6 a) (Bf a)
abbrev BEX (a : CZ) : List Span × Bool := AU (Dk.mk (BCS a) (Ak a).st (Ak a).sp)
abbrev AYG (a : CZ) : List Span := (BEX a).fst
abbrev AUI (a : CZ) (i : Nat) : Span := gD (AU (AI a)).fst i
abbrev AYQ (a : CZ) (i : Nat) : Span := gD (AYG a) i
abbrev ARC (a : CZ) : List Span := stgL (BCS a)
abbrev BBQ (a : CZ) (i : Nat) : Span := gD (ARC a) i
theorem CVH (a : CZ) : (CRU a) = ((a.c.p.lo = a.c.p.lo /\ a.c.p.hi = a.c.p.hi /\ a.c.base = a.c.base /\ a.c.scale = a.c.scale /\ a.c.off = a.c.off /\ APV a = a.c.ms.length /\ (∀ (i : Nat), i < APV a -> (BVV a
 i).pl = (gD a.c.ms i).pl /\ (BVV a i).ht = (gD a.c.ms i).ht) /\ AMO a = a.c.ns.length /\ (∀ (i : Nat), i < AMO a -> (ANL a i).mi = (gD a.c.ns i).mi /\ (BOP a i).lo = (gD a.c.ns i).t.lo /\ (BOP a i).hi =
 (gD a.c.ns i).t.hi /\ (BRW a i).lo = (gD a.c.ns i).s.lo /\ (BRW a i).hi = (gD a.c.ns i).s.hi) /\ ANS a = a.z.length /\ (∀ (i : Nat), i < ANS a -> gD (ANO a) i = gD a.z i) /\ (APV a <
 (4611686018427387904 : Nat) /\ AMO a < (4611686018427387904 : Nat) /\ ANS a < (4611686018427387904 : Nat)) /\ AK (BHZ a) = (0 : Int)) /\ bif Cw (BIH a) != (0 : Int) then False else (Qi a /\
 Kj a /\ Sl a /\ Qe a /\ Wo a /\ AWH a /\ BEZ a /\ BGW a /\ BDO a /\ Vx a /\ AT = AT /\ BDU a /\ Rd a /\ ASX a /\ Qi a /\ Kj a /\ Sl a /\ Qe a /\
 Wo a /\ BDD a /\ BHR a /\ AUN a /\ AVV a /\ Vx a /\ AT = AT /\ BCU a /\ Rd a /\ BHG a /\ BHQ a /\ ARS a /\ ∀ (j : Int), J3 a j = true -> (0 : Int) <= j /\ j <
 (↑(RV a) : Int)) /\ bif !(BEX a).snd then False else (Qi a /\ Kj a /\ Sl a /\ Qe a /\ Wo a /\ AWH a /\ BEZ a /\ BGW a /\ BDO a /\ Vx a /\ AT = AT /\ BDU a /\
 Rd a /\ ASX a /\ Qi a /\ Kj a /\ Sl a /\ Qe a /\ Wo a /\ BDD a /\ BHR a /\ AUN a /\ AVV a /\ Vx a /\ AT = AT /\ BCU a /\ Rd a /\ BHG a /\ BHQ a /\
 ARS a) /\ (AU (AI a)).fst.length = (AYG a).length /\ (∀ (i : Nat), i < (AU (AI a)).fst.length -> (AUI a i).lo = (AYQ a i).lo /\ (AUI a i).hi = (AYQ a i).hi) /\ (stgL a.c).length =
 (ARC a).length /\ (∀ (i : Nat), i < (stgL a.c).length -> (gD (stgL a.c) i).lo = (BBQ a i).lo /\ (gD (stgL a.c) i).hi = (BBQ a i).hi) /\ Int.ofNat (0 : Nat) = Int.ofNat (0 : Nat) /\ (AI a).c.p.lo = L1 a
 /\ (AI a).c.p.hi = zK a /\ (AI a).c.base = Lp a /\ (AI a).c.scale = Ts a /\ (AI a).c.off = Ui a /\ (AI a).c.ms.length = Cz a /\ (∀ (i : Nat), i < (AI a).c.ms.length -> (gD (AI a).c.ms
 i).pl = F4 a i /\ (gD (AI a).c.ms i).ht = wU a i) /\ (AI a).c.ns.length = ZR a /\ (∀ (i : Nat), i < (AI a).c.ns.length -> (gD (AI a).c.ns i).mi = C5 a i /\ (gD (AI a).c.ns i).t.lo = xS
 a i /\ (gD (AI a).c.ns i).t.hi = vP a i /\ (gD (AI a).c.ns i).s.lo = vV a i /\ (gD (AI a).c.ns i).s.hi = wA a i) /\ (∀ (i : Nat), i < (40 : Nat) -> (AI a).sp i = A4 a i) /\ AT = AT /\ (∀ (n :
 Int), hasN (AI a).c.ns n = N3 a n) /\ (∀ (n : Int), (AI a).st n = J0 a n) /\ ∀ (n : Int), (ntOf (AI a).c.ns n).mi = wV a n /\ (ntOf (AI a).c.ns n).t.lo = uR a n /\ (ntOf (AI a).c.ns n).t.hi
 = L6 a n /\ (ntOf (AI a).c.ns n).s.lo = L0 a n /\ (ntOf (AI a).c.ns n).s.hi = wB a n) := by kernel_rfl
def CIM (a : CZ) : Prop := BB Try.prog A_rd qG (AL qG) (xCZ a) (AG []) (C_rdX.val a) [] [] []
abbrev vI (a : CZ) : List Mk := AE a.c.ms.length λ (i : Nat) => gD a.c.ms i
abbrev xO (a : CZ) : Nat := (vI a).length
abbrev BFL (a : CZ) (i : Nat) : Mk := gD (vI a) i
abbrev M7 (a : CZ) : List Nt := AE a.c.ns.length λ (i : Nat) => gD a.c.ns i
abbrev K2 (a : CZ) : Nat := (M7 a).length
abbrev uD (a : CZ) (i : Nat) : Nt := gD (M7 a) i
abbrev BEK (a : CZ) (i : Nat) : Span := (uD a i).t
abbrev BGH (a : CZ) (i : Nat) : Span := (uD a i).s
abbrev E5 (a : CZ) : List Int := AE a.z.length λ (i : Nat) => gD a.z i
abbrev wW (a : CZ) : Nat := (E5 a).length
abbrev V2 (a : CZ) : Cht := Cht.mk a.c.p a.c.base a.c.scale a.c.off (vI a) (M7 a)
abbrev ABA (a : CZ) : CZ := CZ.mk (V2 a) (E5 a)
abbrev ADN (a : CZ) : Int := Cw (ABA a)
abbrev Be : Prop := 0 = 0
abbrev YX : Prop := ∀ (i : Nat), i < 0 -> false = false
abbrev QI (a : CZ) : Dk := AI (ABA a)
abbrev LS (a : CZ) : Cht := (QI a).c
abbrev aB (a : CZ) : Span := (LS a).p
abbrev AJK (a : CZ) : Int := (aB a).lo
abbrev ZH (a : CZ) : Prop := AJK a = AJK a
abbrev AIG (a : CZ) : Int := (aB a).hi
abbrev Cs (a : CZ) : Prop := AIG a = AIG a
abbrev Yq (a : CZ) : Int := (LS a).base
abbrev YL (a : CZ) : Prop := Yq a = Yq a
abbrev Xc (a : CZ) : Int := (LS a).scale
abbrev ZG (a : CZ) : Prop := Xc a = Xc a
abbrev cD (a : CZ) : Int := (LS a).off
abbrev Cj (a : CZ) : Prop := cD a = cD a
abbrev Y8 (a : CZ) : List Mk := (LS a).ms
abbrev YZ (a : CZ) : Nat := (Y8 a).length
abbrev Xv (a : CZ) (i : Nat) : Mk := gD (Y8 a) i
abbrev eI (a : CZ) : List Mk := AE (YZ a) λ (i : Nat) => Xv a i
abbrev NP (a : CZ) : Nat := (eI a).length
abbrev AFF (a : CZ) : Prop := NP a = YZ a
abbrev Q3 (a : CZ) (i : Nat) : Mk := gD (eI a) i
abbrev ABH (a : CZ) (i : Nat) : Int := (Q3 a i).pl
abbrev AKS (a : CZ) (i : Nat) : Int := (Xv a i).pl
abbrev P4 (a : CZ) (i : Nat) : Int := (Q3 a i).ht
abbrev AJU (a : CZ) (i : Nat) : Int := (Xv a i).ht
abbrev AEM (a : CZ) : Prop := ∀ (i : Nat), i < NP a -> ABH a i = AKS a i /\ P4 a i = AJU a i
abbrev ZX (a : CZ) : List Nt := (LS a).ns
abbrev Ai (a : CZ) : Nat := (ZX a).length
abbrev Ad (a : CZ) (i : Nat) : Nt := gD (ZX a) i
abbrev RR (a : CZ) : List Nt := AE (Ai a) λ (i : Nat) => Ad a i
abbrev bX (a : CZ) : Nat := (RR a).length
abbrev V6 (a : CZ) : Prop := bX a = Ai a
abbrev aZ (a : CZ) (i : Nat) : Nt := gD (RR a) i
abbrev ADQ (a : CZ) (i : Nat) : Int := (aZ a i).mi
abbrev U6 (a : CZ) (i : Nat) : Int := (Ad a i).mi
abbrev AHR (a : CZ) (i : Nat) : Span := (aZ a i).t
abbrev S7 (a : CZ) (i : Nat) : Int := (AHR a i).lo
abbrev AHZ (a : CZ) (i : Nat) : Span := (Ad a i).t
abbrev AFQ (a : CZ) (i : Nat) : Int := (AHZ a i).lo
abbrev Q7 (a : CZ) (i : Nat) : Int := (AHR a i).hi
abbrev O3 (a : CZ) (i : Nat) : Int := (AHZ a i).hi
abbrev AID (a : CZ) (i : Nat) : Span := (aZ a i).s
abbrev T6 (a : CZ) (i : Nat) : Int := (AID a i).lo
abbrev AFZ (a : CZ) (i : Nat) : Span := (Ad a i).s
abbrev AGP (a : CZ) (i : Nat) : Int := (AFZ a i).lo
abbrev S3 (a : CZ) (i : Nat) : Int := (AID a i).hi
abbrev AFV (a : CZ) (i : Nat) : Int := (AFZ a i).hi
abbrev AFK (a : CZ) : Prop := ∀ (i : Nat), i < bX a -> ADQ a i = U6 a i /\ S7 a i = AFQ a i /\ Q7 a i = O3 a i /\ T6 a i = AGP a i /\ S3 a i = AFV
 a i
abbrev AGU (a : CZ) (i : Nat) : Bool := (QI a).sp i
abbrev Bo (a : CZ) : Prop := ∀ (i : Nat), i < 40 -> AGU a i = AGU a i
abbrev aH (a : CZ) (n : Int) : Bool := hasN (RR a) n
abbrev AJP (a : CZ) (n : Int) : Bool := hasN (ZX a) n
abbrev AAK (a : CZ) : Prop := ∀ (n : Int), aH a n = AJP a n
abbrev AGJ (a : CZ) (n : Int) : Int := (QI a).st n
abbrev ZI (a : CZ) : Prop := ∀ (n : Int), AGJ a n = AGJ a n
abbrev Zk (a : CZ) (n : Int) : Nt := ntOf (RR a) n
abbrev AJW (a : CZ) (n : Int) : Int := (Zk a n).mi
abbrev cE (a : CZ) (n : Int) : Nt := ntOf (ZX a) n
abbrev AJL (a : CZ) (n : Int) : Int := (cE a n).mi
abbrev ALB (a : CZ) (n : Int) : Span := (Zk a n).t
abbrev AIZ (a : CZ) (n : Int) : Int := (ALB a n).lo
abbrev O7 (a : CZ) (n : Int) : Span := (cE a n).t
abbrev ACF (a : CZ) (n : Int) : Int := (O7 a n).lo
abbrev AAI (a : CZ) (n : Int) : Int := (ALB a n).hi
abbrev AHC (a : CZ) (n : Int) : Int := (O7 a n).hi
abbrev Z0 (a : CZ) (n : Int) : Span := (Zk a n).s
abbrev ADC (a : CZ) (n : Int) : Int := (Z0 a n).lo
abbrev AIY (a : CZ) (n : Int) : Span := (cE a n).s
abbrev AIA (a : CZ) (n : Int) : Int := (AIY a n).lo
abbrev AFL (a : CZ) (n : Int) : Int := (Z0 a n).hi
abbrev V0 (a : CZ) (n : Int) : Int := (AIY a n).hi
abbrev AKT (a : CZ) : Prop := ∀ (n : Int), AJW a n = AJL a n /\ AIZ a n = ACF a n /\ AAI a n = AHC a n /\ ADC a n = AIA a n /\ AFL a n = V0 a n
abbrev AGA (a : CZ) : Prop := YZ a = NP a
abbrev O4 (a : CZ) : Prop := ∀ (i : Nat), i < YZ a -> AKS a i = ABH a i /\ AJU a i = P4 a i
abbrev AAP (a : CZ) : Prop := Ai a = bX a
abbrev AEZ (a : CZ) : Prop := ∀ (i : Nat), i < Ai a -> U6 a i = ADQ a i /\ AFQ a i = S7 a i /\ O3 a i = Q7 a i /\ AGP a i = T6 a i /\ AFV a i = S3
 a i
abbrev R2 (a : CZ) : Prop := ∀ (n : Int), AJP a n = aH a n
abbrev AHA (a : CZ) : Prop := ∀ (n : Int), AJL a n = AJW a n /\ ACF a n = AIZ a n /\ AHC a n = AAI a n /\ AIA a n = ADC a n /\ V0 a n = AFL a n
abbrev V4 (a : CZ) : Prop := 1 <= NP a
abbrev Q8 (a : CZ) : Prop := NP a <= 40
theorem CQC (a : CZ) : (CIM a) = ((a.c.p.lo = a.c.p.lo /\ a.c.p.hi = a.c.p.hi /\ a.c.base = a.c.base /\ a.c.scale = a.c.scale /\ a.c.off = a.c.off /\ xO a = a.c.ms.length /\ (∀ (i : Nat), i < xO a ->
 (BFL a i).pl = (gD a.c.ms i).pl /\ (BFL a i).ht = (gD a.c.ms i).ht) /\ K2 a = a.c.ns.length /\ (∀ (i : Nat), i < K2 a -> (uD a i).mi = (gD a.c.ns i).mi /\ (BEK a i).lo = (gD a.c.ns i).t.lo /\
 (BEK a i).hi = (gD a.c.ns i).t.hi /\ (BGH a i).lo = (gD a.c.ns i).s.lo /\ (BGH a i).hi = (gD a.c.ns i).s.hi) /\ wW a = a.z.length /\ (∀ (i : Nat), i < wW a -> gD (E5 a) i = gD a.z i) /\
 (xO a < 4611686018427387904 /\ K2 a < 4611686018427387904 /\ wW a < 4611686018427387904) /\ AK (V2 a) = 0) /\ bif ADN a != 0 then Value.pointer none = Value.pointer none /\ Be /\
 YX /\ Be /\ YX /\ AS a = ADN a else (ZH a /\ Cs a /\ YL a /\ ZG a /\ Cj a /\ AFF a /\ AEM a /\ V6 a /\ AFK a /\ Bo a /\ AT = AT /\
 AAK a /\ ZI a /\ AKT a /\ ZH a /\ Cs a /\ YL a /\ ZG a /\ Cj a /\ AGA a /\ O4 a /\ AAP a /\ AEZ a /\ Bo a /\ AT = AT /\ R2 a /\ ZI a
 /\ AHA a /\ V4 a /\ Q8 a /\ ∀ (j : Int), aH a j = true -> 0 <= j /\ j < (↑(NP a) : Int)) /\ bif !(AU (Dk.mk (Cht.mk (aB a) (Yq a) (Xc a) (cD a) (eI a)
 (RR a)) (QI a).st (QI a).sp)).snd then Value.pointer none = Value.pointer none /\ Be /\ YX /\ Be /\ YX /\ AS a = 6 else (ZH a /\ Cs a /\ YL a /\ ZG
 a /\ Cj a /\ AFF a /\ AEM a /\ V6 a /\ AFK a /\ Bo a /\ AT = AT /\ AAK a /\ ZI a /\ AKT a /\ ZH a /\ Cs a /\ YL a /\ ZG a /\ Cj a /\
 AGA a /\ O4 a /\ AAP a /\ AEZ a /\ Bo a /\ AT = AT /\ R2 a /\ ZI a /\ AHA a /\ V4 a /\ Q8 a) /\ False) := by kernel_rfl
def CNL (a : CZ) : Prop := BB Try.prog CTS qG (AL qG) (xCZ a) (AG []) (C_rdX.val a) [] [] []
theorem CPO (a : CZ) : (CNL a) = ((a.c.p.lo = a.c.p.lo /\ a.c.p.hi = a.c.p.hi /\ a.c.base = a.c.base /\ a.c.scale = a.c.scale /\ a.c.off = a.c.off /\ (AE a.c.ms.length λ (i : Nat) => gD a.c.ms i).length =
 a.c.ms.length /\ (∀ (i : Nat), i < (AE a.c.ms.length λ (i : Nat) => gD a.c.ms i).length -> (gD (AE a.c.ms.length λ (i : Nat) => gD a.c.ms i) i).pl = (gD a.c.ms i).pl /\ (gD (AE a.c.ms.length λ (i : Nat) => gD
 a.c.ms i) i).ht = (gD a.c.ms i).ht) /\ (AE a.c.ns.length λ (i : Nat) => gD a.c.ns i).length = a.c.ns.length /\ (∀ (i : Nat), i < (AE a.c.ns.length λ (i : Nat) => gD a.c.ns i).length -> (gD (AE a.c.ns.length λ (i :
 Nat) => gD a.c.ns i) i).mi = (gD a.c.ns i).mi /\ (gD (AE a.c.ns.length λ (i : Nat) => gD a.c.ns i) i).t.lo = (gD a.c.ns i).t.lo /\ (gD (AE a.c.ns.length λ (i : Nat) => gD a.c.ns i) i).t.hi = (gD a.c.ns i).t.hi /\ (gD
 (AE a.c.ns.length λ (i : Nat) => gD a.c.ns i) i).s.lo = (gD a.c.ns i).s.lo /\ (gD (AE a.c.ns.length λ (i : Nat) => gD a.c.ns i) i).s.hi = (gD a.c.ns i).s.hi) /\ (AE a.z.length λ (i : Nat) => gD a.z i).length =
 a.z.length /\ (∀ (i : Nat), i < (AE a.z.length λ (i : Nat) => gD a.z i).length -> gD (AE a.z.length λ (i : Nat) => gD a.z i) i = gD a.z i) /\ ((AE a.c.ms.length λ (i : Nat) => gD a.c.ms i).length <
 4611686018427387904 /\ (AE a.c.ns.length λ (i : Nat) => gD a.c.ns i).length < 4611686018427387904 /\ (AE a.z.length λ (i : Nat) => gD a.z i).length < 4611686018427387904) /\ AK (Cht.mk a.c.p a.c.base a.c.scale
 a.c.off (AE a.c.ms.length λ (i : Nat) => gD a.c.ms i) (AE a.c.ns.length λ (i : Nat) => gD a.c.ns i)) ≠ 0) /\ bif Cw (CZ.mk (Cht.mk a.c.p a.c.base a.c.scale a.c.off (AE a.c.ms.length λ (i : Nat) => gD a.c.ms i)
 (AE a.c.ns.length λ (i : Nat) => gD a.c.ns i)) (AE a.z.length λ (i : Nat) => gD a.z i)) != 0 then Value.pointer none = Value.pointer none /\ 0 = 0 /\ (∀ (i : Nat), i < 0 -> false = false) /\ 0 = 0 /\ (∀ (i : Nat), i < 0
 -> false = false) /\ AS a = Cw (CZ.mk (Cht.mk a.c.p a.c.base a.c.scale a.c.off (AE a.c.ms.length λ (i : Nat) => gD a.c.ms i) (AE a.c.ns.length λ (i : Nat) => gD a.c.ns i)) (AE a.z.length λ (i : Nat) => gD a.z
 i)) else False) := by kernel_rfl
theorem No (a : CZ) : Dk.mk a.c (AI a).st (AI a).sp = AI a := rfl
theorem dL {c : Cht} (h : AK c = 0) : nsIn c /\ ∀ n ∈ c.ns, CO n c.ms.length = true := by
 obtain ⟨h1, ⟨h2, h3⟩, h4⟩ := ET h
 have hr : c.ns.all (λ n => CO n c.ms.length) = true := by
  cases hq : c.ns.all (λ n => CO n c.ms.length) with
  | true => rfl
  | false =>
   unfold AK at h
   rw [h1, hq] at h
   cases hm : (mkC (-1) c.ms != 0) with
   | true =>
    rw [hm] at h
    have h : mkC (-1) c.ms = 0 := h
    rw [h] at hm; cases hm
   | false => rw [hm] at h; cases h
 refine ⟨λ j hj => ?_, λ n hn => List.all_eq_true.1 hr n hn⟩
 unfold hasN at hj
 obtain ⟨x, hx, e⟩ := List.any_eq_true.1 hj
 have e : x.mi = j := by simpa using e
 have := List.all_eq_true.1 hr x hx
 unfold CO HK wr at this
 rw [FC (by omega) (by omega)] at this
 simp only [Bool.and_eq_true, decide_eq_true_eq] at this
 omega
theorem Dz {a : CZ} (h : AS a = 0) : AK a.c = 0 /\ okZ a = true /\ (AU (AI a)).2 = true := by
 unfold AS at h
 cases h1 : (AK a.c == 0) with
 | false => rw [h1] at h; have h : AK a.c = 0 := h; rw [h] at h1; cases h1
 | true =>
  rw [h1] at h
  cases h2 : okZ a with
  | false => rw [h2] at h; cases h
  | true =>
   rw [h2] at h
   cases h3 : (AU (AI a)).2 with
   | false => rw [h3] at h; cases h
   | true => exact ⟨by simpa using h1, rfl, rfl⟩
theorem BNV : AM Try.prog UH (C_rdO.spec dCZ) := LM C_rdO (λ _ => A_rd) [(0, 2032), (1, 2033)] [] BLC (λ _ => by kernel_rfl) (λ _ => AC CHZ (AC vL (AC BQR AJ))) (λ (a : CZ) h => by
 obtain ⟨h1, h2⟩ : (a.c.ms.length < 4611686018427387904 /\ a.c.ns.length < 4611686018427387904 /\ a.z.length < 4611686018427387904) /\ AS a = 0 := h
 obtain ⟨c0, c1, c2⟩ := Dz h2
 have e : Cw a = 0 := by unfold Cw; rw [c0, c1]; rfl
 have hl := ET c0
 have hn := (dL c0).1
 show CRU a; rw [CVH]; delta APP APV BVV APB AMO ANL BOP BRW ANO ANS BHZ BIH Ak RW zN L1 Qi zK Kj Lp Sl Ts Qe Ui Wo BBX Cz D7 G6 RV AWH AWE AUQ F4 AVF wU BEZ Kv ZR Uu Bf A7 BGW wZ BFT C5 AWD ATD BGV xS AWA vP BAQ BCY BFA vV BGG wA BDO A4 Vx J3 N3 BDU J0 Rd wC BCA xK wV AZP BIG ASJ uR BIX L6 BGX BBA AWK L0 BAA wB ASX BDD BHR AUN AVV BCU BHG BHQ ARS BCS BEX AYG AUI AYQ ARC BBQ; simp only [CC, eq_self, implies_true, forall_const, CB, YF, Oy, SX, No, e, c2]
 exact ⟨⟨h1, c0⟩, (λ h => by simp at h), λ _ => ⟨⟨by omega, by omega, hn⟩, (λ h => by cases h), by omega, by omega⟩⟩) (λ _ => OA rfl rfl) _
theorem BNK : AM Try.prog UH (C_rdX.spec dCZ) := okT C_rdX (λ (a : CZ) h => by
 obtain ⟨h1, h2⟩ : (a.c.ms.length < 4611686018427387904 /\ a.c.ns.length < 4611686018427387904 /\ a.z.length < 4611686018427387904) /\ AS a ≠ 0 := h
 by_cases c0 : AK a.c = 0
 ·have e : Cw a = bif okZ a then 0 else 2 := by unfold Cw; rw [c0]; rfl
  have e2 : AS a = bif okZ a then bif (AU (AI a)).2 then 0 else 6 else 2 := by unfold AS; rw [c0]; rfl
  have hl := ET c0
  have hn := (dL c0).1
  refine UV (A := A_rd) (L := []) (keep := []) (ren := []) (fz := []) BLC (by kernel_rfl) (AC CHZ (AC vL (AC BQR AJ))) ?_
  show CIM a; rw [CQC]; delta vI xO BFL M7 K2 uD BEK BGH E5 wW V2 ABA ADN Be YX QI LS aB AJK ZH AIG Cs Yq YL Xc ZG cD Cj Y8 YZ Xv eI NP AFF Q3 ABH AKS P4 AJU AEM ZX Ai Ad RR bX V6 aZ ADQ U6 AHR S7 AHZ AFQ Q7 O3 AID T6 AFZ AGP S3 AFV AFK AGU Bo aH AJP AAK AGJ ZI Zk AJW cE AJL ALB AIZ O7 ACF AAI AHC Z0 ADC AIY AIA AFL V0 AKT AGA O4 AAP AEZ R2 AHA V4 Q8; simp only [CC, eq_self, implies_true, forall_const, CB, YF, Oy, SX, No, e]
  rw [e2] at h2 ⊢
  refine ⟨⟨h1, c0⟩, ?_⟩
  cases ho : okZ a with
  | false => exact ⟨λ _ => rfl, λ h => by simp at h⟩
  | true =>
   rw [ho] at h2
   cases hq : (AU (AI a)).2 with
   | false => exact ⟨λ h => by simp at h, λ _ => ⟨⟨by omega, by omega, hn⟩, λ _ => rfl, λ h => by cases h⟩⟩
   | true => rw [hq] at h2; exact absurd rfl h2
 ·have c0' : (AK a.c == 0) = false := by simpa using c0
  have e : Cw a = AK a.c := by unfold Cw; rw [c0']; rfl
  have e2 : AS a = AK a.c := by unfold AS; rw [c0']; rfl
  refine UV (A := CTS) (L := []) (keep := []) (ren := []) (fz := []) BLC (by kernel_rfl) (AC CQV AJ) ?_
  show CNL a; rw [CPO]; simp only [CC, eq_self, implies_true, forall_const, CB, SX, e, e2]
  simp [h1, c0]) _
def YU (a : CZ) : List Span × Int := bif AS a == 0 then ((AU (AI a)).1, 0) else ([], AS a)
def C_Times : Ctr := { α := CZ, xs := xCZ, val := λ a => .tup [.d (AX (YU a).1), .int (YU a).2], keep := λ _ => [], pre := λ a => [a.c.ms.length < 4611686018427387904 /\ a.c.ns.length < 4611686018427387904 /\ a.z.length < 4611686018427387904] }
def CUE : Ann := ann 20 [(UH, C_rdO.spec dCZ)]
def CUB : Ann := ann 20 [(UH, C_rdX.spec dCZ)]
def CRW (a : CZ) : Prop := BB Try.prog CUE I5 (AL I5) (xCZ a) (AG []) (.tup [.d (AX (AU (AI a)).1), .int 0]) [] [] []
theorem CWA (a : CZ) : (CRW a) = ((a.c.p.lo = a.c.p.lo /\ a.c.p.hi = a.c.p.hi /\ a.c.base = a.c.base /\ a.c.scale = a.c.scale /\ a.c.off = a.c.off /\ (AE a.c.ms.length λ (i : Nat) => gD a.c.ms i).length =
 a.c.ms.length /\ (∀ (i : Nat), i < (AE a.c.ms.length λ (i : Nat) => gD a.c.ms i).length -> (gD (AE a.c.ms.length λ (i : Nat) => gD a.c.ms i) i).pl = (gD a.c.ms i).pl /\ (gD (AE a.c.ms.length λ (i : Nat) => gD
 a.c.ms i) i).ht = (gD a.c.ms i).ht) /\ (AE a.c.ns.length λ (i : Nat) => gD a.c.ns i).length = a.c.ns.length /\ (∀ (i : Nat), i < (AE a.c.ns.length λ (i : Nat) => gD a.c.ns i).length -> (gD (AE a.c.ns.length λ (i :
 Nat) => gD a.c.ns i) i).mi = (gD a.c.ns i).mi /\ (gD (AE a.c.ns.length λ (i : Nat) => gD a.c.ns i) i).t.lo = (gD a.c.ns i).t.lo /\ (gD (AE a.c.ns.length λ (i : Nat) => gD a.c.ns i) i).t.hi = (gD a.c.ns i).t.hi /\ (gD
 (AE a.c.ns.length λ (i : Nat) => gD a.c.ns i) i).s.lo = (gD a.c.ns i).s.lo /\ (gD (AE a.c.ns.length λ (i : Nat) => gD a.c.ns i) i).s.hi = (gD a.c.ns i).s.hi) /\ (AE a.z.length λ (i : Nat) => gD a.z i).length =
 a.z.length /\ (∀ (i : Nat), i < (AE a.z.length λ (i : Nat) => gD a.z i).length -> gD (AE a.z.length λ (i : Nat) => gD a.z i) i = gD a.z i) /\ ((AE a.c.ms.length λ (i : Nat) => gD a.c.ms i).length <
 (4611686018427387904 : Nat) /\ (AE a.c.ns.length λ (i : Nat) => gD a.c.ns i).length < (4611686018427387904 : Nat) /\ (AE a.z.length λ (i : Nat) => gD a.z i).length < (4611686018427387904 : Nat)) /\ AS (CZ.mk
 (Cht.mk a.c.p a.c.base a.c.scale a.c.off (AE a.c.ms.length λ (i : Nat) => gD a.c.ms i) (AE a.c.ns.length λ (i : Nat) => gD a.c.ns i)) (AE a.z.length λ (i : Nat) => gD a.z i)) = (0 : Int)) /\ (AU (AI
 a)).fst.length = (AU (AI (CZ.mk (Cht.mk a.c.p a.c.base a.c.scale a.c.off (AE a.c.ms.length λ (i : Nat) => gD a.c.ms i) (AE a.c.ns.length λ (i : Nat) => gD a.c.ns i)) (AE a.z.length λ (i : Nat) => gD a.z
 i)))).fst.length /\ (∀ (i : Nat), i < (AU (AI a)).fst.length -> (gD (AU (AI a)).fst i).lo = (gD (AU (AI (CZ.mk (Cht.mk a.c.p a.c.base a.c.scale a.c.off (AE a.c.ms.length λ (i : Nat) => gD a.c.ms i)
 (AE a.c.ns.length λ (i : Nat) => gD a.c.ns i)) (AE a.z.length λ (i : Nat) => gD a.z i)))).fst i).lo /\ (gD (AU (AI a)).fst i).hi = (gD (AU (AI (CZ.mk (Cht.mk a.c.p a.c.base a.c.scale a.c.off (AE
 a.c.ms.length λ (i : Nat) => gD a.c.ms i) (AE a.c.ns.length λ (i : Nat) => gD a.c.ns i)) (AE a.z.length λ (i : Nat) => gD a.z i)))).fst i).hi) /\ Int.ofNat (0 : Nat) = Int.ofNat (0 : Nat)) := by kernel_rfl
def CSK (a : CZ) : Prop := BB Try.prog CUB I5 (AL I5) (xCZ a) (AG []) (.tup [.d (AX nilS), .int (AS a)]) [] [] []
theorem CWB (a : CZ) : (CSK a) = ((a.c.p.lo = a.c.p.lo /\ a.c.p.hi = a.c.p.hi /\ a.c.base = a.c.base /\ a.c.scale = a.c.scale /\ a.c.off = a.c.off /\ (AE a.c.ms.length λ (i : Nat) => gD a.c.ms i).length =
 a.c.ms.length /\ (∀ (i : Nat), i < (AE a.c.ms.length λ (i : Nat) => gD a.c.ms i).length -> (gD (AE a.c.ms.length λ (i : Nat) => gD a.c.ms i) i).pl = (gD a.c.ms i).pl /\ (gD (AE a.c.ms.length λ (i : Nat) => gD
 a.c.ms i) i).ht = (gD a.c.ms i).ht) /\ (AE a.c.ns.length λ (i : Nat) => gD a.c.ns i).length = a.c.ns.length /\ (∀ (i : Nat), i < (AE a.c.ns.length λ (i : Nat) => gD a.c.ns i).length -> (gD (AE a.c.ns.length λ (i :
 Nat) => gD a.c.ns i) i).mi = (gD a.c.ns i).mi /\ (gD (AE a.c.ns.length λ (i : Nat) => gD a.c.ns i) i).t.lo = (gD a.c.ns i).t.lo /\ (gD (AE a.c.ns.length λ (i : Nat) => gD a.c.ns i) i).t.hi = (gD a.c.ns i).t.hi /\ (gD
 (AE a.c.ns.length λ (i : Nat) => gD a.c.ns i) i).s.lo = (gD a.c.ns i).s.lo /\ (gD (AE a.c.ns.length λ (i : Nat) => gD a.c.ns i) i).s.hi = (gD a.c.ns i).s.hi) /\ (AE a.z.length λ (i : Nat) => gD a.z i).length =
 a.z.length /\ (∀ (i : Nat), i < (AE a.z.length λ (i : Nat) => gD a.z i).length -> gD (AE a.z.length λ (i : Nat) => gD a.z i) i = gD a.z i) /\ ((AE a.c.ms.length λ (i : Nat) => gD a.c.ms i).length <
 4611686018427387904 /\ (AE a.c.ns.length λ (i : Nat) => gD a.c.ns i).length < 4611686018427387904 /\ (AE a.z.length λ (i : Nat) => gD a.z i).length < 4611686018427387904) /\ AS (CZ.mk (Cht.mk a.c.p a.c.base
 a.c.scale a.c.off (AE a.c.ms.length λ (i : Nat) => gD a.c.ms i) (AE a.c.ns.length λ (i : Nat) => gD a.c.ns i)) (AE a.z.length λ (i : Nat) => gD a.z i)) ≠ 0) /\ 0 = 0 /\ 0 = 0 /\ AS a = AS (CZ.mk (Cht.mk a.c.p
 a.c.base a.c.scale a.c.off (AE a.c.ms.length λ (i : Nat) => gD a.c.ms i) (AE a.c.ns.length λ (i : Nat) => gD a.c.ns i)) (AE a.z.length λ (i : Nat) => gD a.z i))) := by kernel_rfl
theorem BXE : AM Try.prog ANA (C_Times.spec dCZ) := okT C_Times (λ (a : CZ) h => by
 have h1 : a.c.ms.length < 4611686018427387904 /\ a.c.ns.length < 4611686018427387904 /\ a.z.length < 4611686018427387904 := h
 by_cases c0 : AS a = 0
 ·have e : C_Times.val a = .tup [.d (AX (AU (AI a)).1), .int 0] := by
   show AVal.tup [.d (AX (YU a).1), .int (YU a).2] = _
   unfold YU; rw [c0]; rfl
  rw [e]
  refine UV (A := CUE) (L := []) (keep := []) (ren := []) (fz := []) BYV (by kernel_rfl) (AC BNV AJ) ?_
  show CRW a; rw [CWA]; simp only [CC, eq_self, implies_true, forall_const, CB, SX]
  simp [h1, c0]
 ·have c0' : (AS a == 0) = false := by simpa using c0
  have e : C_Times.val a = .tup [.d (AX nilS), .int (AS a)] := by
   show AVal.tup [.d (AX (YU a).1), .int (YU a).2] = _
   unfold YU; rw [c0']; rfl
  rw [e]
  refine UV (A := CUB) (L := []) (keep := []) (ren := []) (fz := []) BYV (by kernel_rfl) (AC BNK AJ) ?_
  show CSK a; rw [CWB]; simp only [CC, eq_self, implies_true, forall_const, CB, SX]
  simp [h1, c0, nilS]) _
end Go.Bal
