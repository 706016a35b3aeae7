/- Package chart: times. -/
import Derived.Test.YtdbjalgfomknhaaChD2
set_option linter.unusedVariables false
set_option linter.unusedSimpArgs false
namespace Go.Bal
open Go Go.Sym Go.Proofs
def AX (w : Dk) : List Span × Bool := bif HP w.c then (MN w (Ie w.c), (MN w (Ie w.c)).all KC) else ([], false)
def C_times : Ctr := { ro := [100, 101], α := Dk, xs := λ _ => [.bptr 100 0], L := λ w => dkL w, val := λ w => .tup [.d (AV (AX w).1), .bool (AX w).2], keep := λ w => dkK w, pre := λ w => [1 <= w.c.ms.length /\ w.c.ms.length <= 40 /\ nsIn w.c] }
def CVX : Ann := { ann 19 [(CPK, C_all.spec dDk1), (CKS, C_not.spec dDk1), (UU, C_nar.spec dDkS)] with E := [100, 101] }
def CWF (w : Dk) : Prop := AZ Try.prog CVX CKO (AN CKO) (C_times.xs w) (AF (C_times.L w)) (C_times.val w) (C_times.keep w) [] []
abbrev LL (w : Dk) : Prop := w.c.p.lo = w.c.p.lo
abbrev LY (w : Dk) : Prop := w.c.p.hi = w.c.p.hi
abbrev lL (w : Dk) : List Mk := AE w.c.ms.length λ (i : Nat) => gD w.c.ms i
abbrev LO (w : Dk) : Nat := (lL w).length
abbrev dL (w : Dk) : Prop := LO w = w.c.ms.length
abbrev AHY (w : Dk) (i : Nat) : Mk := gD (lL w) i
abbrev ARH (w : Dk) (i : Nat) : Int := (AHY w i).pl
abbrev AGY (w : Dk) (i : Nat) : Int := (AHY w i).ht
abbrev hU (w : Dk) : Prop := ∀ (i : Nat), i < LO w -> ARH w i = (gD w.c.ms i).pl /\ AGY w i = (gD w.c.ms i).ht
abbrev SR (w : Dk) : List Nt := AE w.c.ns.length λ (i : Nat) => gD w.c.ns i
abbrev Hv (w : Dk) : Nat := (SR w).length
abbrev Jz (w : Dk) : Prop := Hv w = w.c.ns.length
abbrev Hs (w : Dk) (i : Nat) : Nt := gD (SR w) i
abbrev wS (w : Dk) (i : Nat) : Int := (Hs w i).mi
abbrev K4 (w : Dk) (i : Nat) : Span := (Hs w i).t
abbrev wM (w : Dk) (i : Nat) : Int := (K4 w i).lo
abbrev C3 (w : Dk) (i : Nat) : Int := (K4 w i).hi
abbrev uM (w : Dk) (i : Nat) : Span := (Hs w i).s
abbrev wB (w : Dk) (i : Nat) : Int := (uM w i).lo
abbrev vF (w : Dk) (i : Nat) : Int := (uM w i).hi
abbrev Iu (w : Dk) : Prop := ∀ (i : Nat), i < Hv w -> wS w i = (gD w.c.ns i).mi /\ wM w i = (gD w.c.ns i).t.lo /\ C3 w i = (gD w.c.ns i).t.hi /\ wB w i = (gD w.c.ns i).s.lo /\
 vF w i = (gD w.c.ns i).s.hi
abbrev IP (w : Dk) : Prop := ∀ (i : Nat), i < 40 -> w.sp i = w.sp i
abbrev Ic (w : Dk) (n : Int) : Bool := hasN (SR w) n
abbrev In (w : Dk) : Prop := ∀ (n : Int), Ic w n = hasN w.c.ns n
abbrev JJ (w : Dk) : Prop := ∀ (n : Int), w.st n = w.st n
abbrev Lj (w : Dk) (n : Int) : Nt := ntOf (SR w) n
abbrev sS (w : Dk) (n : Int) : Int := (Lj w n).mi
abbrev sK (w : Dk) (n : Int) : Span := (Lj w n).t
abbrev D1 (w : Dk) (n : Int) : Int := (sK w n).lo
abbrev sB (w : Dk) (n : Int) : Int := (sK w n).hi
abbrev J6 (w : Dk) (n : Int) : Span := (Lj w n).s
abbrev D7 (w : Dk) (n : Int) : Int := (J6 w n).lo
abbrev xL (w : Dk) (n : Int) : Int := (J6 w n).hi
abbrev Mr (w : Dk) : Prop := ∀ (n : Int), sS w n = (ntOf w.c.ns n).mi /\ D1 w n = (ntOf w.c.ns n).t.lo /\ sB w n = (ntOf w.c.ns n).t.hi /\ D7 w n = (ntOf w.c.ns n).s.lo /\ xL w
 n = (ntOf w.c.ns n).s.hi
abbrev Kf (w : Dk) : Prop := w.c.ms.length = LO w
abbrev Jn (w : Dk) : Prop := ∀ (i : Nat), i < w.c.ms.length -> (gD w.c.ms i).pl = ARH w i /\ (gD w.c.ms i).ht = AGY w i
abbrev Iz (w : Dk) : Prop := w.c.ns.length = Hv w
abbrev Ll (w : Dk) : Prop := ∀ (i : Nat), i < w.c.ns.length -> (gD w.c.ns i).mi = wS w i /\ (gD w.c.ns i).t.lo = wM w i /\ (gD w.c.ns i).t.hi = C3 w i /\ (gD w.c.ns i).s.lo = wB w i /\
 (gD w.c.ns i).s.hi = vF w i
abbrev Kc (w : Dk) : Prop := ∀ (n : Int), hasN w.c.ns n = Ic w n
abbrev Jw (w : Dk) : Prop := ∀ (n : Int), (ntOf w.c.ns n).mi = sS w n /\ (ntOf w.c.ns n).t.lo = D1 w n /\ (ntOf w.c.ns n).t.hi = sB w n /\ (ntOf w.c.ns n).s.lo = D7 w n /\ (ntOf w.c.ns
 n).s.hi = xL w n
abbrev F2 (w : Dk) : Prop := 1 <= LO w
abbrev tD (w : Dk) : Prop := LO w <= 40
abbrev yI (w : Dk) : Prop := F2 w /\ tD w
abbrev Lm (w : Dk) : Cht := Cht.mk w.c.p w.c.base w.c.scale w.c.off (lL w) (SR w)
abbrev xD (w : Dk) : Prop := (AX w).fst.length = 0
abbrev F7 (w : Dk) : Prop := LL w /\ LY w /\ w.c.base = w.c.base /\ w.c.scale = w.c.scale /\ w.c.off = w.c.off /\ w.c.ms.length = w.c.ms.length /\ (∀ (i : Nat), i < w.c.ms.length -> (gD w.c.ms i).pl = (gD
 w.c.ms i).pl /\ (gD w.c.ms i).ht = (gD w.c.ms i).ht) /\ w.c.ns.length = w.c.ns.length /\ (∀ (i : Nat), i < w.c.ns.length -> (gD w.c.ns i).mi = (gD w.c.ns i).mi /\ (gD w.c.ns i).t.lo = (gD w.c.ns i).t.lo /\ (gD w.c.ns i).t.hi =
 (gD w.c.ns i).t.hi /\ (gD w.c.ns i).s.lo = (gD w.c.ns i).s.lo /\ (gD w.c.ns i).s.hi = (gD w.c.ns i).s.hi) /\ IP w /\ AU = AU /\ (∀ (n : Int), hasN w.c.ns n = hasN w.c.ns n) /\ JJ w /\ ∀ (n : Int), (ntOf w.c.ns
 n).mi = (ntOf w.c.ns n).mi /\ (ntOf w.c.ns n).t.lo = (ntOf w.c.ns n).t.lo /\ (ntOf w.c.ns n).t.hi = (ntOf w.c.ns n).t.hi /\ (ntOf w.c.ns n).s.lo = (ntOf w.c.ns n).s.lo /\ (ntOf w.c.ns n).s.hi = (ntOf w.c.ns n).s.hi
abbrev K1 (w : Dk) : List Span := Ie (Lm w)
abbrev C0 (w : Dk) : Nat := (K1 w).length
abbrev Le (w : Dk) (i : Nat) : Span := gD (K1 w) i
abbrev Ko (w : Dk) : List Span := AE (C0 w) λ (i : Nat) => Le w i
abbrev Jx (w : Dk) : Nat := (Ko w).length
abbrev xO (w : Dk) (i : Nat) : Span := gD (Ko w) i
abbrev Ma (w : Dk) : List Span := MN (Dk.mk (Lm w) w.st w.sp) (Ko w)
abbrev yT (w : Dk) (i : Nat) : Span := gD (AX w).fst i
abbrev wL (w : Dk) (i : Nat) : Span := gD (Ma w) i
theorem CXZ (w : Dk) : (CWF w) = ((LL w /\ LY w /\ w.c.base = w.c.base /\ w.c.scale = w.c.scale /\ w.c.off = w.c.off /\ dL w /\ hU w /\ Jz w /\ Iu w /\ IP w /\ AU = AU
 /\ In w /\ JJ w /\ Mr w /\ LL w /\ LY w /\ w.c.base = w.c.base /\ w.c.scale = w.c.scale /\ w.c.off = w.c.off /\ Kf w /\ Jn w /\ Iz w /\ Ll w /\ IP w /\ AU
 = AU /\ Kc w /\ JJ w /\ Jw w /\ yI w) /\ bif !HP (Lm w) then xD w /\ xD w /\ (AX w).snd = false /\ F7 w else (LL w /\ LY w /\ w.c.base =
 w.c.base /\ w.c.scale = w.c.scale /\ w.c.off = w.c.off /\ dL w /\ hU w /\ Jz w /\ Iu w /\ IP w /\ AU = AU /\ In w /\ JJ w /\ Mr w /\ LL w /\ LY w /\
 w.c.base = w.c.base /\ w.c.scale = w.c.scale /\ w.c.off = w.c.off /\ Kf w /\ Jn w /\ Iz w /\ Ll w /\ IP w /\ AU = AU /\ Kc w /\ JJ w /\ Jw w /\ (F2 w /\
 tD w /\ ∀ (j : Int), Ic w j = true -> 0 <= j /\ j < (↑(LO w) : Int)) /\ Jx w = C0 w /\ (∀ (i : Nat), i < Jx w -> (xO w i).lo = (Le w i).lo /\ (xO w i).hi =
 (Le w i).hi) /\ LL w /\ LY w /\ w.c.base = w.c.base /\ w.c.scale = w.c.scale /\ w.c.off = w.c.off /\ dL w /\ hU w /\ Jz w /\ Iu w /\ IP w /\ AU = AU /\ In w /\
 JJ w /\ Mr w /\ LL w /\ LY w /\ w.c.base = w.c.base /\ w.c.scale = w.c.scale /\ w.c.off = w.c.off /\ Kf w /\ Jn w /\ Iz w /\ Ll w /\ IP w /\ AU = AU /\
 Kc w /\ JJ w /\ Jw w /\ Jx w = LO w /\ yI w) /\ (AX w).fst.length = (Ma w).length /\ (∀ (i : Nat), i < (AX w).fst.length -> (yT w i).lo = (wL w
 i).lo /\ (yT w i).hi = (wL w i).hi) /\ (AX w).snd = (Ma w).all KC /\ F7 w) := by kernel_rfl
theorem WA (a : CZ) : CZ.mk a.c a.z = a := rfl
theorem FR (c : Cht) : (Ie c).length = c.ms.length := rng_length _ _
theorem ACQ : AP Try.prog P6 (C_times.spec dDk1) := MC C_times (λ _ => CVX) [] [] DCT (λ _ => by kernel_rfl) (λ _ => AD CEF (AD DNC (AD CQC AK))) (λ (w : Dk) h => by
 obtain ⟨h1, h2, h3⟩ : 1 <= w.c.ms.length /\ w.c.ms.length <= 40 /\ nsIn w.c := h
 show CWF w; rw [CXZ]; delta LL LY lL LO dL AHY ARH AGY hU SR Hv Jz Hs wS K4 wM C3 uM wB vF Iu IP Ic In JJ Lj sS sK D1 sB J6 D7 xL Mr Kf Jn Iz Ll Kc Jw F2 tD yI Lm xD F7 K1 C0 Le Ko Jx xO Ma yT wL; simp only [CC, eq_self, implies_true, forall_const, BO, Bf]
 refine ⟨⟨h1, h2⟩, λ h => ?_, λ h => ⟨⟨⟨h1, h2, h3⟩, FR _, h1, h2⟩, ?_⟩⟩
 ·unfold AX; rw [h]; exact ⟨rfl, rfl, rfl⟩
 ·unfold AX; rw [h]; exact ⟨rfl, λ _ _ => ⟨rfl, rfl⟩, rfl⟩) (λ _ => MO rfl rfl) _
def AS (a : CZ) : Int := bif AO a.c == 0 then bif okZ a then bif (AX (AI a)).2 then 0 else 6 else 2 else AO a.c
def C_rdO : Ctr := { α := CZ, xs := xCZ, val := λ a => .tup [.bptr 0 0, .d (AV (AX (AI a)).1), .d (AV (BA a.c)), .int 0], keep := λ a => dkN (AI a), pre := λ a => [(a.c.ms.length < 4611686018427387904 /\ a.c.ns.length < 4611686018427387904 /\ a.z.length < 4611686018427387904) /\ AS a = 0] }
def C_rdX : Ctr := { α := CZ, xs := xCZ, val := λ a => .tup [.d (.v (.pointer none)), .d GE, .d GE, .int (AS a)], keep := λ _ => [], pre := λ a => [(a.c.ms.length < 4611686018427387904 /\ a.c.ns.length < 4611686018427387904 /\ a.z.length < 4611686018427387904) /\ AS a ≠ 0] }
def A_rd : Ann := ann 38 [(ADU, C_beg.spec dCZ), (P6, C_times.spec dDk1), (CPK, C_all.spec dDk1)]
def DKU : Ann := ann 38 [(ADU, C_begX.spec dCZ)]
def DJK (a : CZ) : Prop := AZ Try.prog A_rd yS (AN yS) (xCZ a) (AF []) (C_rdO.val a) (C_rdO.keep a) [(0, 2032), (1, 2033)] []
abbrev BIA (a : CZ) : List Mk := AE a.c.ms.length λ (i : Nat) => gD a.c.ms i
abbrev BIV (a : CZ) : Nat := (BIA a).length
abbrev CEO (a : CZ) (i : Nat) : Mk := gD (BIA a) i
abbrev BHV (a : CZ) : List Nt := AE a.c.ns.length λ (i : Nat) => gD a.c.ns i
abbrev BJF (a : CZ) : Nat := (BHV a).length
abbrev BIQ (a : CZ) (i : Nat) : Nt := gD (BHV a) i
abbrev CMO (a : CZ) (i : Nat) : Span := (BIQ a i).t
abbrev CMY (a : CZ) (i : Nat) : Span := (BIQ a i).s
abbrev BGJ (a : CZ) : List Int := AE a.z.length λ (i : Nat) => gD a.z i
abbrev BJA (a : CZ) : Nat := (BGJ a).length
abbrev BPR (a : CZ) : Cht := Cht.mk a.c.p a.c.base a.c.scale a.c.off (BIA a) (BHV a)
abbrev BMR (a : CZ) : CZ := CZ.mk (BPR a) (BGJ a)
abbrev Gd (a : CZ) : Dk := AI (BMR a)
abbrev XB (a : CZ) : Cht := (Gd a).c
abbrev U8 (a : CZ) : Span := (XB a).p
abbrev ABA (a : CZ) : Int := (U8 a).lo
abbrev bV (a : CZ) : Prop := ABA a = ABA a
abbrev O8 (a : CZ) : Int := (U8 a).hi
abbrev Qd (a : CZ) : Prop := O8 a = O8 a
abbrev Pp (a : CZ) : Int := (XB a).base
abbrev aE (a : CZ) : Prop := Pp a = Pp a
abbrev Wk (a : CZ) : Int := (XB a).scale
abbrev Se (a : CZ) : Prop := Wk a = Wk a
abbrev Xv (a : CZ) : Int := (XB a).off
abbrev aN (a : CZ) : Prop := Xv a = Xv a
abbrev BJT (a : CZ) : List Mk := (XB a).ms
abbrev Ek (a : CZ) : Nat := (BJT a).length
abbrev N9 (a : CZ) (i : Nat) : Mk := gD (BJT a) i
abbrev AEM (a : CZ) : List Mk := AE (Ek a) λ (i : Nat) => N9 a i
abbrev WW (a : CZ) : Nat := (AEM a).length
abbrev BWP (a : CZ) : Prop := WW a = Ek a
abbrev BJO (a : CZ) (i : Nat) : Mk := gD (AEM a) i
abbrev BRJ (a : CZ) (i : Nat) : Int := (BJO a i).pl
abbrev ACW (a : CZ) (i : Nat) : Int := (N9 a i).pl
abbrev BJQ (a : CZ) (i : Nat) : Int := (BJO a i).ht
abbrev ACP (a : CZ) (i : Nat) : Int := (N9 a i).ht
abbrev BVW (a : CZ) : Prop := ∀ (i : Nat), i < WW a -> BRJ a i = ACW a i /\ BJQ a i = ACP a i
abbrev Ql (a : CZ) : List Nt := (XB a).ns
abbrev Ey (a : CZ) : Nat := (Ql a).length
abbrev Ni (a : CZ) (i : Nat) : Nt := gD (Ql a) i
abbrev Ct (a : CZ) : List Nt := AE (Ey a) λ (i : Nat) => Ni a i
abbrev L8 (a : CZ) : Nat := (Ct a).length
abbrev BKO (a : CZ) : Prop := L8 a = Ey a
abbrev T7 (a : CZ) (i : Nat) : Nt := gD (Ct a) i
abbrev BYG (a : CZ) (i : Nat) : Int := (T7 a i).mi
abbrev X0 (a : CZ) (i : Nat) : Int := (Ni a i).mi
abbrev BSP (a : CZ) (i : Nat) : Span := (T7 a i).t
abbrev BUE (a : CZ) (i : Nat) : Int := (BSP a i).lo
abbrev BUU (a : CZ) (i : Nat) : Span := (Ni a i).t
abbrev L3 (a : CZ) (i : Nat) : Int := (BUU a i).lo
abbrev BPV (a : CZ) (i : Nat) : Int := (BSP a i).hi
abbrev P4 (a : CZ) (i : Nat) : Int := (BUU a i).hi
abbrev BUX (a : CZ) (i : Nat) : Span := (T7 a i).s
abbrev BOC (a : CZ) (i : Nat) : Int := (BUX a i).lo
abbrev BKD (a : CZ) (i : Nat) : Span := (Ni a i).s
abbrev ADS (a : CZ) (i : Nat) : Int := (BKD a i).lo
abbrev BQM (a : CZ) (i : Nat) : Int := (BUX a i).hi
abbrev ACI (a : CZ) (i : Nat) : Int := (BKD a i).hi
abbrev CAB (a : CZ) : Prop := ∀ (i : Nat), i < L8 a -> BYG a i = X0 a i /\ BUE a i = L3 a i /\ BPV a i = P4 a i /\ BOC a i = ADS a i /\ BQM a i = ACI a i
abbrev AAK (a : CZ) (i : Nat) : Bool := (Gd a).sp i
abbrev Yd (a : CZ) : Prop := ∀ (i : Nat), i < (40 : Nat) -> AAK a i = AAK a i
abbrev X9 (a : CZ) (n : Int) : Bool := hasN (Ct a) n
abbrev L9 (a : CZ) (n : Int) : Bool := hasN (Ql a) n
abbrev BLP (a : CZ) : Prop := ∀ (n : Int), X9 a n = L9 a n
abbrev Z0 (a : CZ) (n : Int) : Int := (Gd a).st n
abbrev Xj (a : CZ) : Prop := ∀ (n : Int), Z0 a n = Z0 a n
abbrev R2 (a : CZ) (n : Int) : Nt := ntOf (Ct a) n
abbrev BSZ (a : CZ) (n : Int) : Int := (R2 a n).mi
abbrev ACT (a : CZ) (n : Int) : Nt := ntOf (Ql a) n
abbrev Z3 (a : CZ) (n : Int) : Int := (ACT a n).mi
abbrev BYN (a : CZ) (n : Int) : Span := (R2 a n).t
abbrev CAJ (a : CZ) (n : Int) : Int := (BYN a n).lo
abbrev BYI (a : CZ) (n : Int) : Span := (ACT a n).t
abbrev T1 (a : CZ) (n : Int) : Int := (BYI a n).lo
abbrev BMI (a : CZ) (n : Int) : Int := (BYN a n).hi
abbrev V1 (a : CZ) (n : Int) : Int := (BYI a n).hi
abbrev BRV (a : CZ) (n : Int) : Span := (R2 a n).s
abbrev BRQ (a : CZ) (n : Int) : Int := (BRV a n).lo
abbrev BZD (a : CZ) (n : Int) : Span := (ACT a n).s
abbrev V9 (a : CZ) (n : Int) : Int := (BZD a n).lo
abbrev BRM (a : CZ) (n : Int) : Int := (BRV a n).hi
abbrev N3 (a : CZ) (n : Int) : Int := (BZD a n).hi
abbrev BJJ (a : CZ) : Prop := ∀ (n : Int), BSZ a n = Z3 a n /\ CAJ a n = T1 a n /\ BMI a n = V1 a n /\ BRQ a n = V9 a n /\ BRM a n = N3 a n
abbrev BPC (a : CZ) : Prop := Ek a = WW a
abbrev BWT (a : CZ) : Prop := ∀ (i : Nat), i < Ek a -> ACW a i = BRJ a i /\ ACP a i = BJQ a i
abbrev BOY (a : CZ) : Prop := Ey a = L8 a
abbrev BVV (a : CZ) : Prop := ∀ (i : Nat), i < Ey a -> X0 a i = BYG a i /\ L3 a i = BUE a i /\ P4 a i = BPV a i /\ ADS a i = BOC a i /\ ACI a i = BQM a i
abbrev BYO (a : CZ) : Prop := ∀ (n : Int), L9 a n = X9 a n
abbrev BXL (a : CZ) : Prop := ∀ (n : Int), Z3 a n = BSZ a n /\ T1 a n = CAJ a n /\ V1 a n = BMI a n /\ V9 a n = BRQ a n /\ N3 a n = BRM a n
abbrev BSB (a : CZ) : Prop := (1 : Nat) <= WW a
abbrev BWJ (a : CZ) : Prop := WW a <= (40 : Nat)
abbrev BQX (a : CZ) : Cht := Cht.mk (U8 a) (Pp a) (Wk a) (Xv a) (AEM a) (Ct a)
abbrev BLV (a : CZ) : List Span × Bool := AX (Dk.mk (BQX a) (Gd a).st (Gd a).sp)
abbrev BMB (a : CZ) : List Span := (BLV a).fst
abbrev BKL (a : CZ) (i : Nat) : Span := gD (AX (AI a)).fst i
abbrev BJH (a : CZ) (i : Nat) : Span := gD (BMB a) i
abbrev BNS (a : CZ) : List Span := BA (BQX a)
abbrev BMG (a : CZ) (i : Nat) : Span := gD (BNS a) i
theorem DOE (a : CZ) : (DJK a) = ((a.c.p.lo = a.c.p.lo /\ a.c.p.hi = a.c.p.hi /\ a.c.base = a.c.base /\ a.c.scale = a.c.scale /\ a.c.off = a.c.off /\ BIV a = a.c.ms.length /\ (∀ (i : Nat), i < BIV a -> (CEO a
 i).pl = (gD a.c.ms i).pl /\ (CEO a i).ht = (gD a.c.ms i).ht) /\ BJF a = a.c.ns.length /\ (∀ (i : Nat), i < BJF a -> (BIQ a i).mi = (gD a.c.ns i).mi /\ (CMO a i).lo = (gD a.c.ns i).t.lo /\ (CMO a i).hi =
 (gD a.c.ns i).t.hi /\ (CMY a i).lo = (gD a.c.ns i).s.lo /\ (CMY a i).hi = (gD a.c.ns i).s.hi) /\ BJA a = a.z.length /\ (∀ (i : Nat), i < BJA a -> gD (BGJ a) i = gD a.z i) /\ (BIV a <
 (4611686018427387904 : Nat) /\ BJF a < (4611686018427387904 : Nat) /\ BJA a < (4611686018427387904 : Nat)) /\ AO (BPR a) = (0 : Int)) /\ bif Fd (BMR a) != (0 : Int) then False else (bV a /\
 Qd a /\ aE a /\ Se a /\ aN a /\ BWP a /\ BVW a /\ BKO a /\ CAB a /\ Yd a /\ AU = AU /\ BLP a /\ Xj a /\ BJJ a /\ bV a /\ Qd a /\ aE a /\ Se a /\
 aN a /\ BPC a /\ BWT a /\ BOY a /\ BVV a /\ Yd a /\ AU = AU /\ BYO a /\ Xj a /\ BXL a /\ BSB a /\ BWJ a /\ ∀ (j : Int), X9 a j = true -> (0 : Int) <= j /\ j <
 (↑(WW a) : Int)) /\ bif !(BLV a).snd then False else (bV a /\ Qd a /\ aE a /\ Se a /\ aN a /\ BWP a /\ BVW a /\ BKO a /\ CAB a /\ Yd a /\ AU = AU /\ BLP a /\
 Xj a /\ BJJ a /\ bV a /\ Qd a /\ aE a /\ Se a /\ aN a /\ BPC a /\ BWT a /\ BOY a /\ BVV a /\ Yd a /\ AU = AU /\ BYO a /\ Xj a /\ BXL a /\ BSB a /\
 BWJ a) /\ (AX (AI a)).fst.length = (BMB a).length /\ (∀ (i : Nat), i < (AX (AI a)).fst.length -> (BKL a i).lo = (BJH a i).lo /\ (BKL a i).hi = (BJH a i).hi) /\ (BA a.c).length =
 (BNS a).length /\ (∀ (i : Nat), i < (BA a.c).length -> (gD (BA a.c) i).lo = (BMG a i).lo /\ (gD (BA a.c) i).hi = (BMG a i).hi) /\ Int.ofNat (0 : Nat) = Int.ofNat (0 : Nat) /\ (AI a).c.p.lo = ABA a
 /\ (AI a).c.p.hi = O8 a /\ (AI a).c.base = Pp a /\ (AI a).c.scale = Wk a /\ (AI a).c.off = Xv a /\ (AI a).c.ms.length = Ek a /\ (∀ (i : Nat), i < (AI a).c.ms.length -> (gD (AI a).c.ms
 i).pl = ACW a i /\ (gD (AI a).c.ms i).ht = ACP a i) /\ (AI a).c.ns.length = Ey a /\ (∀ (i : Nat), i < (AI a).c.ns.length -> (gD (AI a).c.ns i).mi = X0 a i /\ (gD (AI a).c.ns i).t.lo = L3
 a i /\ (gD (AI a).c.ns i).t.hi = P4 a i /\ (gD (AI a).c.ns i).s.lo = ADS a i /\ (gD (AI a).c.ns i).s.hi = ACI a i) /\ (∀ (i : Nat), i < (40 : Nat) -> (AI a).sp i = AAK a i) /\ AU = AU /\ (∀ (n :
 Int), hasN (AI a).c.ns n = L9 a n) /\ (∀ (n : Int), (AI a).st n = Z0 a n) /\ ∀ (n : Int), (ntOf (AI a).c.ns n).mi = Z3 a n /\ (ntOf (AI a).c.ns n).t.lo = T1 a n /\ (ntOf (AI a).c.ns n).t.hi
 = V1 a n /\ (ntOf (AI a).c.ns n).s.lo = V9 a n /\ (ntOf (AI a).c.ns n).s.hi = N3 a n) := by kernel_rfl
def DDH (a : CZ) : Prop := AZ Try.prog A_rd yS (AN yS) (xCZ a) (AF []) (C_rdX.val a) [] [] []
abbrev AAA (a : CZ) : List Mk := AE a.c.ms.length λ (i : Nat) => gD a.c.ms i
abbrev X2 (a : CZ) : Nat := (AAA a).length
abbrev BOT (a : CZ) (i : Nat) : Mk := gD (AAA a) i
abbrev ADQ (a : CZ) : List Nt := AE a.c.ns.length λ (i : Nat) => gD a.c.ns i
abbrev ABS (a : CZ) : Nat := (ADQ a).length
abbrev AEX (a : CZ) (i : Nat) : Nt := gD (ADQ a) i
abbrev BXE (a : CZ) (i : Nat) : Span := (AEX a i).t
abbrev BQQ (a : CZ) (i : Nat) : Span := (AEX a i).s
abbrev Y9 (a : CZ) : List Int := AE a.z.length λ (i : Nat) => gD a.z i
abbrev X1 (a : CZ) : Nat := (Y9 a).length
abbrev ALX (a : CZ) : Cht := Cht.mk a.c.p a.c.base a.c.scale a.c.off (AAA a) (ADQ a)
abbrev AXI (a : CZ) : CZ := CZ.mk (ALX a) (Y9 a)
abbrev APX (a : CZ) : Int := Fd (AXI a)
abbrev Fq : Prop := 0 = 0
abbrev Bw : Prop := ∀ (i : Nat), i < 0 -> false = false
abbrev SI (a : CZ) : Dk := AI (AXI a)
abbrev OS (a : CZ) : Cht := (SI a).c
abbrev qW (a : CZ) : Span := (OS a).p
abbrev AGB (a : CZ) : Int := (qW a).lo
abbrev Ec (a : CZ) : Prop := AGB a = AGB a
abbrev AKW (a : CZ) : Int := (qW a).hi
abbrev Di (a : CZ) : Prop := AKW a = AKW a
abbrev kR (a : CZ) : Int := (OS a).base
abbrev Ei (a : CZ) : Prop := kR a = kR a
abbrev jY (a : CZ) : Int := (OS a).scale
abbrev Du (a : CZ) : Prop := jY a = jY a
abbrev mZ (a : CZ) : Int := (OS a).off
abbrev Cy (a : CZ) : Prop := mZ a = mZ a
abbrev AQR (a : CZ) : List Mk := (OS a).ms
abbrev Fz (a : CZ) : Nat := (AQR a).length
abbrev fT (a : CZ) (i : Nat) : Mk := gD (AQR a) i
abbrev nP (a : CZ) : List Mk := AE (Fz a) λ (i : Nat) => fT a i
abbrev OE (a : CZ) : Nat := (nP a).length
abbrev AMU (a : CZ) : Prop := OE a = Fz a
abbrev BBH (a : CZ) (i : Nat) : Mk := gD (nP a) i
abbrev AGJ (a : CZ) (i : Nat) : Int := (BBH a i).pl
abbrev ANO (a : CZ) (i : Nat) : Int := (fT a i).pl
abbrev BAM (a : CZ) (i : Nat) : Int := (BBH a i).ht
abbrev AWD (a : CZ) (i : Nat) : Int := (fT a i).ht
abbrev AVE (a : CZ) : Prop := ∀ (i : Nat), i < OE a -> AGJ a i = ANO a i /\ BAM a i = AWD a i
abbrev Ge (a : CZ) : List Nt := (OS a).ns
abbrev Fx (a : CZ) : Nat := (Ge a).length
abbrev Bx (a : CZ) (i : Nat) : Nt := gD (Ge a) i
abbrev SF (a : CZ) : List Nt := AE (Fx a) λ (i : Nat) => Bx a i
abbrev rD (a : CZ) : Nat := (SF a).length
abbrev AYO (a : CZ) : Prop := rD a = Fx a
abbrev mU (a : CZ) (i : Nat) : Nt := gD (SF a) i
abbrev BAK (a : CZ) (i : Nat) : Int := (mU a i).mi
abbrev AYS (a : CZ) (i : Nat) : Int := (Bx a i).mi
abbrev AYT (a : CZ) (i : Nat) : Span := (mU a i).t
abbrev AVA (a : CZ) (i : Nat) : Int := (AYT a i).lo
abbrev AYP (a : CZ) (i : Nat) : Span := (Bx a i).t
abbrev BEV (a : CZ) (i : Nat) : Int := (AYP a i).lo
abbrev BBD (a : CZ) (i : Nat) : Int := (AYT a i).hi
abbrev AJW (a : CZ) (i : Nat) : Int := (AYP a i).hi
abbrev BCI (a : CZ) (i : Nat) : Span := (mU a i).s
abbrev AOZ (a : CZ) (i : Nat) : Int := (BCI a i).lo
abbrev AMV (a : CZ) (i : Nat) : Span := (Bx a i).s
abbrev ANX (a : CZ) (i : Nat) : Int := (AMV a i).lo
abbrev ALR (a : CZ) (i : Nat) : Int := (BCI a i).hi
abbrev BEQ (a : CZ) (i : Nat) : Int := (AMV a i).hi
abbrev ARE (a : CZ) : Prop := ∀ (i : Nat), i < rD a -> BAK a i = AYS a i /\ AVA a i = BEV a i /\ BBD a i = AJW a i /\ AOZ a i = ANX a i /\ ALR a i = BEQ
 a i
abbrev BAE (a : CZ) (i : Nat) : Bool := (SI a).sp i
abbrev Dj (a : CZ) : Prop := ∀ (i : Nat), i < 40 -> BAE a i = BAE a i
abbrev qP (a : CZ) (n : Int) : Bool := hasN (SF a) n
abbrev AQE (a : CZ) (n : Int) : Bool := hasN (Ge a) n
abbrev AIM (a : CZ) : Prop := ∀ (n : Int), qP a n = AQE a n
abbrev BES (a : CZ) (n : Int) : Int := (SI a).st n
abbrev Ed (a : CZ) : Prop := ∀ (n : Int), BES a n = BES a n
abbrev fU (a : CZ) (n : Int) : Nt := ntOf (SF a) n
abbrev AHO (a : CZ) (n : Int) : Int := (fU a n).mi
abbrev gN (a : CZ) (n : Int) : Nt := ntOf (Ge a) n
abbrev BBN (a : CZ) (n : Int) : Int := (gN a n).mi
abbrev AID (a : CZ) (n : Int) : Span := (fU a n).t
abbrev AZG (a : CZ) (n : Int) : Int := (AID a n).lo
abbrev AFK (a : CZ) (n : Int) : Span := (gN a n).t
abbrev BAN (a : CZ) (n : Int) : Int := (AFK a n).lo
abbrev AXU (a : CZ) (n : Int) : Int := (AID a n).hi
abbrev AWG (a : CZ) (n : Int) : Int := (AFK a n).hi
abbrev AOQ (a : CZ) (n : Int) : Span := (fU a n).s
abbrev AQI (a : CZ) (n : Int) : Int := (AOQ a n).lo
abbrev AYA (a : CZ) (n : Int) : Span := (gN a n).s
abbrev BBC (a : CZ) (n : Int) : Int := (AYA a n).lo
abbrev ALU (a : CZ) (n : Int) : Int := (AOQ a n).hi
abbrev BEP (a : CZ) (n : Int) : Int := (AYA a n).hi
abbrev AJJ (a : CZ) : Prop := ∀ (n : Int), AHO a n = BBN a n /\ AZG a n = BAN a n /\ AXU a n = AWG a n /\ AQI a n = BBC a n /\ ALU a n = BEP a n
abbrev BEL (a : CZ) : Prop := Fz a = OE a
abbrev AQC (a : CZ) : Prop := ∀ (i : Nat), i < Fz a -> ANO a i = AGJ a i /\ AWD a i = BAM a i
abbrev AFF (a : CZ) : Prop := Fx a = rD a
abbrev BAH (a : CZ) : Prop := ∀ (i : Nat), i < Fx a -> AYS a i = BAK a i /\ BEV a i = AVA a i /\ AJW a i = BBD a i /\ ANX a i = AOZ a i /\ BEQ a i = ALR
 a i
abbrev ALQ (a : CZ) : Prop := ∀ (n : Int), AQE a n = qP a n
abbrev AWN (a : CZ) : Prop := ∀ (n : Int), BBN a n = AHO a n /\ BAN a n = AZG a n /\ AWG a n = AXU a n /\ BBC a n = AQI a n /\ BEP a n = ALU a n
abbrev ATF (a : CZ) : Prop := 1 <= OE a
abbrev ASQ (a : CZ) : Prop := OE a <= 40
theorem DIC (a : CZ) : (DDH a) = ((a.c.p.lo = a.c.p.lo /\ a.c.p.hi = a.c.p.hi /\ a.c.base = a.c.base /\ a.c.scale = a.c.scale /\ a.c.off = a.c.off /\ X2 a = a.c.ms.length /\ (∀ (i : Nat), i < X2 a ->
 (BOT a i).pl = (gD a.c.ms i).pl /\ (BOT a i).ht = (gD a.c.ms i).ht) /\ ABS a = a.c.ns.length /\ (∀ (i : Nat), i < ABS a -> (AEX a i).mi = (gD a.c.ns i).mi /\ (BXE a i).lo = (gD a.c.ns i).t.lo /\
 (BXE a i).hi = (gD a.c.ns i).t.hi /\ (BQQ a i).lo = (gD a.c.ns i).s.lo /\ (BQQ a i).hi = (gD a.c.ns i).s.hi) /\ X1 a = a.z.length /\ (∀ (i : Nat), i < X1 a -> gD (Y9 a) i = gD a.z i) /\
 (X2 a < 4611686018427387904 /\ ABS a < 4611686018427387904 /\ X1 a < 4611686018427387904) /\ AO (ALX a) = 0) /\ bif APX a != 0 then Value.pointer none = Value.pointer none /\ Fq /\
 Bw /\ Fq /\ Bw /\ AS a = APX a else (Ec a /\ Di a /\ Ei a /\ Du a /\ Cy a /\ AMU a /\ AVE a /\ AYO a /\ ARE a /\ Dj a /\ AU = AU /\
 AIM a /\ Ed a /\ AJJ a /\ Ec a /\ Di a /\ Ei a /\ Du a /\ Cy a /\ BEL a /\ AQC a /\ AFF a /\ BAH a /\ Dj a /\ AU = AU /\ ALQ a /\ Ed a
 /\ AWN a /\ ATF a /\ ASQ a /\ ∀ (j : Int), qP a j = true -> 0 <= j /\ j < (↑(OE a) : Int)) /\ bif !(AX (Dk.mk (Cht.mk (qW a) (kR a) (jY a) (mZ a) (nP a)
 (SF a)) (SI a).st (SI a).sp)).snd then Value.pointer none = Value.pointer none /\ Fq /\ Bw /\ Fq /\ Bw /\ AS a = 6 else (Ec a /\ Di a /\ Ei a /\ Du
 a /\ Cy a /\ AMU a /\ AVE a /\ AYO a /\ ARE a /\ Dj a /\ AU = AU /\ AIM a /\ Ed a /\ AJJ a /\ Ec a /\ Di a /\ Ei a /\ Du a /\ Cy a /\
 BEL a /\ AQC a /\ AFF a /\ BAH a /\ Dj a /\ AU = AU /\ ALQ a /\ Ed a /\ AWN a /\ ATF a /\ ASQ a) /\ False) := by kernel_rfl
def DEH (a : CZ) : Prop := AZ Try.prog DKU yS (AN yS) (xCZ a) (AF []) (C_rdX.val a) [] [] []
theorem DGM (a : CZ) : (DEH a) = ((a.c.p.lo = a.c.p.lo /\ a.c.p.hi = a.c.p.hi /\ a.c.base = a.c.base /\ a.c.scale = a.c.scale /\ a.c.off = a.c.off /\ (AE a.c.ms.length λ (i : Nat) => gD a.c.ms i).length =
 a.c.ms.length /\ (∀ (i : Nat), i < (AE a.c.ms.length λ (i : Nat) => gD a.c.ms i).length -> (gD (AE a.c.ms.length λ (i : Nat) => gD a.c.ms i) i).pl = (gD a.c.ms i).pl /\ (gD (AE a.c.ms.length λ (i : Nat) => gD
 a.c.ms i) i).ht = (gD a.c.ms i).ht) /\ (AE a.c.ns.length λ (i : Nat) => gD a.c.ns i).length = a.c.ns.length /\ (∀ (i : Nat), i < (AE a.c.ns.length λ (i : Nat) => gD a.c.ns i).length -> (gD (AE a.c.ns.length λ (i :
 Nat) => gD a.c.ns i) i).mi = (gD a.c.ns i).mi /\ (gD (AE a.c.ns.length λ (i : Nat) => gD a.c.ns i) i).t.lo = (gD a.c.ns i).t.lo /\ (gD (AE a.c.ns.length λ (i : Nat) => gD a.c.ns i) i).t.hi = (gD a.c.ns i).t.hi /\ (gD
 (AE a.c.ns.length λ (i : Nat) => gD a.c.ns i) i).s.lo = (gD a.c.ns i).s.lo /\ (gD (AE a.c.ns.length λ (i : Nat) => gD a.c.ns i) i).s.hi = (gD a.c.ns i).s.hi) /\ (AE a.z.length λ (i : Nat) => gD a.z i).length =
 a.z.length /\ (∀ (i : Nat), i < (AE a.z.length λ (i : Nat) => gD a.z i).length -> gD (AE a.z.length λ (i : Nat) => gD a.z i) i = gD a.z i) /\ ((AE a.c.ms.length λ (i : Nat) => gD a.c.ms i).length <
 4611686018427387904 /\ (AE a.c.ns.length λ (i : Nat) => gD a.c.ns i).length < 4611686018427387904 /\ (AE a.z.length λ (i : Nat) => gD a.z i).length < 4611686018427387904) /\ AO (Cht.mk a.c.p a.c.base a.c.scale
 a.c.off (AE a.c.ms.length λ (i : Nat) => gD a.c.ms i) (AE a.c.ns.length λ (i : Nat) => gD a.c.ns i)) ≠ 0) /\ bif Fd (CZ.mk (Cht.mk a.c.p a.c.base a.c.scale a.c.off (AE a.c.ms.length λ (i : Nat) => gD a.c.ms i)
 (AE a.c.ns.length λ (i : Nat) => gD a.c.ns i)) (AE a.z.length λ (i : Nat) => gD a.z i)) != 0 then Value.pointer none = Value.pointer none /\ 0 = 0 /\ (∀ (i : Nat), i < 0 -> false = false) /\ 0 = 0 /\ (∀ (i : Nat), i < 0
 -> false = false) /\ AS a = Fd (CZ.mk (Cht.mk a.c.p a.c.base a.c.scale a.c.off (AE a.c.ms.length λ (i : Nat) => gD a.c.ms i) (AE a.c.ns.length λ (i : Nat) => gD a.c.ns i)) (AE a.z.length λ (i : Nat) => gD a.z
 i)) else False) := by kernel_rfl
theorem Oa (a : CZ) : Dk.mk a.c (AI a).st (AI a).sp = AI a := rfl
theorem rA {c : Cht} (h : AO c = 0) : nsIn c /\ ∀ n ∈ c.ns, CG n c.ms.length = true := by
 obtain ⟨h1, ⟨h2, h3⟩, h4⟩ := EW h
 have hr : c.ns.all (λ n => CG n c.ms.length) = true := by
  cases hq : c.ns.all (λ n => CG n c.ms.length) with
  | true => rfl
  | false =>
   unfold AO at h
   rw [h1, hq] at h
   cases hm : (mkC (-1) c.ms != 0) with
   | true =>
    rw [hm] at h
    have h : mkC (-1) c.ms = 0 := h
    rw [h] at hm; cases hm
   | false => rw [hm] at h; cases h
 refine ⟨λ j hj => ?_, λ n hn => List.all_eq_true.1 hr n hn⟩
 unfold hasN at hj
 obtain ⟨x, hx, e⟩ := List.any_eq_true.1 hj
 have e : x.mi = j := by simpa using e
 have := List.all_eq_true.1 hr x hx
 unfold CG IE wr at this
 rw [EM (by omega) (by omega)] at this
 simp only [Bool.and_eq_true, decide_eq_true_eq] at this
 omega
theorem IA {a : CZ} (h : AS a = 0) : AO a.c = 0 /\ okZ a = true /\ (AX (AI a)).2 = true := by
 unfold AS at h
 cases h1 : (AO a.c == 0) with
 | false => rw [h1] at h; have h : AO a.c = 0 := h; rw [h] at h1; cases h1
 | true =>
  rw [h1] at h
  cases h2 : okZ a with
  | false => rw [h2] at h; cases h
  | true =>
   rw [h2] at h
   cases h3 : (AX (AI a)).2 with
   | false => rw [h3] at h; cases h
   | true => exact ⟨by simpa using h1, rfl, rfl⟩
theorem CLJ : AP Try.prog VV (C_rdO.spec dCZ) := MC C_rdO (λ _ => A_rd) [(0, 2032), (1, 2033)] [] CKA (λ _ => by kernel_rfl) (λ _ => AD DEF (AD ACQ (AD CEF AK))) (λ (a : CZ) h => by
 obtain ⟨h1, h2⟩ : (a.c.ms.length < 4611686018427387904 /\ a.c.ns.length < 4611686018427387904 /\ a.z.length < 4611686018427387904) /\ AS a = 0 := h
 obtain ⟨c0, c1, c2⟩ := IA h2
 have e : Fd a = 0 := by unfold Fd; rw [c0, c1]; rfl
 have hl := EW c0
 have hn := (rA c0).1
 show DJK a; rw [DOE]; delta BIA BIV CEO BHV BJF BIQ CMO CMY BGJ BJA BPR BMR Gd XB U8 ABA bV O8 Qd Pp aE Wk Se Xv aN BJT Ek N9 AEM WW BWP BJO BRJ ACW BJQ ACP BVW Ql Ey Ni Ct L8 BKO T7 BYG X0 BSP BUE BUU L3 BPV P4 BUX BOC BKD ADS BQM ACI CAB AAK Yd X9 L9 BLP Z0 Xj R2 BSZ ACT Z3 BYN CAJ BYI T1 BMI V1 BRV BRQ BZD V9 BRM N3 BJJ BPC BWT BOY BVV BYO BXL BSB BWJ BQX BLV BMB BKL BJH BNS BMG; simp only [CC, eq_self, implies_true, forall_const, BO, Bf, Rk, WA, Oa, e, c2]
 exact ⟨⟨h1, c0⟩, (λ h => by simp at h), λ _ => ⟨⟨by omega, by omega, hn⟩, (λ h => by cases h), by omega, by omega⟩⟩) (λ _ => MO rfl rfl) _
theorem CHY : AP Try.prog VV (C_rdX.spec dCZ) := okT C_rdX (λ (a : CZ) h => by
 obtain ⟨h1, h2⟩ : (a.c.ms.length < 4611686018427387904 /\ a.c.ns.length < 4611686018427387904 /\ a.z.length < 4611686018427387904) /\ AS a ≠ 0 := h
 by_cases c0 : AO a.c = 0
 ·have e : Fd a = bif okZ a then 0 else 2 := by unfold Fd; rw [c0]; rfl
  have e2 : AS a = bif okZ a then bif (AX (AI a)).2 then 0 else 6 else 2 := by unfold AS; rw [c0]; rfl
  have hl := EW c0
  have hn := (rA c0).1
  refine TV (A := A_rd) (L := []) (keep := []) (ren := []) (fz := []) CKA (by kernel_rfl) (AD DEF (AD ACQ (AD CEF AK))) ?_
  show DDH a; rw [DIC]; delta AAA X2 BOT ADQ ABS AEX BXE BQQ Y9 X1 ALX AXI APX Fq Bw SI OS qW AGB Ec AKW Di kR Ei jY Du mZ Cy AQR Fz fT nP OE AMU BBH AGJ ANO BAM AWD AVE Ge Fx Bx SF rD AYO mU BAK AYS AYT AVA AYP BEV BBD AJW BCI AOZ AMV ANX ALR BEQ ARE BAE Dj qP AQE AIM BES Ed fU AHO gN BBN AID AZG AFK BAN AXU AWG AOQ AQI AYA BBC ALU BEP AJJ BEL AQC AFF BAH ALQ AWN ATF ASQ; simp only [CC, eq_self, implies_true, forall_const, BO, Bf, Rk, WA, Oa, e]
  rw [e2] at h2 ⊢
  refine ⟨⟨h1, c0⟩, ?_⟩
  cases ho : okZ a with
  | false => exact ⟨λ _ => rfl, λ h => by simp at h⟩
  | true =>
   rw [ho] at h2
   cases hq : (AX (AI a)).2 with
   | false => exact ⟨λ h => by simp at h, λ _ => ⟨⟨by omega, by omega, hn⟩, λ _ => rfl, λ h => by cases h⟩⟩
   | true => rw [hq] at h2; exact absurd rfl h2
 ·have c0' : (AO a.c == 0) = false := by simpa using c0
  have e : Fd a = AO a.c := by unfold Fd; rw [c0']; rfl
  have e2 : AS a = AO a.c := by unfold AS; rw [c0']; rfl
  refine TV (A := DKU) (L := []) (keep := []) (ren := []) (fz := []) CKA (by kernel_rfl) (AD DGX AK) ?_
  show DEH a; rw [DGM]; simp only [CC, eq_self, implies_true, forall_const, BO, WA, e, e2]
  simp [h1, c0]) _
def NT (a : CZ) : List Span × Int := bif AS a == 0 then ((AX (AI a)).1, 0) else ([], AS a)
def C_Times : Ctr := { α := CZ, xs := xCZ, val := λ a => .tup [.d (AV (NT a).1), .int (NT a).2], keep := λ _ => [], pre := λ a => [a.c.ms.length < 4611686018427387904 /\ a.c.ns.length < 4611686018427387904 /\ a.z.length < 4611686018427387904] }
def DJV : Ann := ann 20 [(VV, C_rdO.spec dCZ)]
def DLS : Ann := ann 20 [(VV, C_rdX.spec dCZ)]
def DMB (a : CZ) : Prop := AZ Try.prog DJV ABL (AN ABL) (xCZ a) (AF []) (.tup [.d (AV (AX (AI a)).1), .int 0]) [] [] []
theorem DNP (a : CZ) : (DMB a) = ((a.c.p.lo = a.c.p.lo /\ a.c.p.hi = a.c.p.hi /\ a.c.base = a.c.base /\ a.c.scale = a.c.scale /\ a.c.off = a.c.off /\ (AE a.c.ms.length λ (i : Nat) => gD a.c.ms i).length =
 a.c.ms.length /\ (∀ (i : Nat), i < (AE a.c.ms.length λ (i : Nat) => gD a.c.ms i).length -> (gD (AE a.c.ms.length λ (i : Nat) => gD a.c.ms i) i).pl = (gD a.c.ms i).pl /\ (gD (AE a.c.ms.length λ (i : Nat) => gD
 a.c.ms i) i).ht = (gD a.c.ms i).ht) /\ (AE a.c.ns.length λ (i : Nat) => gD a.c.ns i).length = a.c.ns.length /\ (∀ (i : Nat), i < (AE a.c.ns.length λ (i : Nat) => gD a.c.ns i).length -> (gD (AE a.c.ns.length λ (i :
 Nat) => gD a.c.ns i) i).mi = (gD a.c.ns i).mi /\ (gD (AE a.c.ns.length λ (i : Nat) => gD a.c.ns i) i).t.lo = (gD a.c.ns i).t.lo /\ (gD (AE a.c.ns.length λ (i : Nat) => gD a.c.ns i) i).t.hi = (gD a.c.ns i).t.hi /\ (gD
 (AE a.c.ns.length λ (i : Nat) => gD a.c.ns i) i).s.lo = (gD a.c.ns i).s.lo /\ (gD (AE a.c.ns.length λ (i : Nat) => gD a.c.ns i) i).s.hi = (gD a.c.ns i).s.hi) /\ (AE a.z.length λ (i : Nat) => gD a.z i).length =
 a.z.length /\ (∀ (i : Nat), i < (AE a.z.length λ (i : Nat) => gD a.z i).length -> gD (AE a.z.length λ (i : Nat) => gD a.z i) i = gD a.z i) /\ ((AE a.c.ms.length λ (i : Nat) => gD a.c.ms i).length <
 (4611686018427387904 : Nat) /\ (AE a.c.ns.length λ (i : Nat) => gD a.c.ns i).length < (4611686018427387904 : Nat) /\ (AE a.z.length λ (i : Nat) => gD a.z i).length < (4611686018427387904 : Nat)) /\ AS (CZ.mk
 (Cht.mk a.c.p a.c.base a.c.scale a.c.off (AE a.c.ms.length λ (i : Nat) => gD a.c.ms i) (AE a.c.ns.length λ (i : Nat) => gD a.c.ns i)) (AE a.z.length λ (i : Nat) => gD a.z i)) = (0 : Int)) /\ (AX (AI
 a)).fst.length = (AX (AI (CZ.mk (Cht.mk a.c.p a.c.base a.c.scale a.c.off (AE a.c.ms.length λ (i : Nat) => gD a.c.ms i) (AE a.c.ns.length λ (i : Nat) => gD a.c.ns i)) (AE a.z.length λ (i : Nat) => gD a.z
 i)))).fst.length /\ (∀ (i : Nat), i < (AX (AI a)).fst.length -> (gD (AX (AI a)).fst i).lo = (gD (AX (AI (CZ.mk (Cht.mk a.c.p a.c.base a.c.scale a.c.off (AE a.c.ms.length λ (i : Nat) => gD a.c.ms i)
 (AE a.c.ns.length λ (i : Nat) => gD a.c.ns i)) (AE a.z.length λ (i : Nat) => gD a.z i)))).fst i).lo /\ (gD (AX (AI a)).fst i).hi = (gD (AX (AI (CZ.mk (Cht.mk a.c.p a.c.base a.c.scale a.c.off (AE
 a.c.ms.length λ (i : Nat) => gD a.c.ms i) (AE a.c.ns.length λ (i : Nat) => gD a.c.ns i)) (AE a.z.length λ (i : Nat) => gD a.z i)))).fst i).hi) /\ Int.ofNat (0 : Nat) = Int.ofNat (0 : Nat)) := by kernel_rfl
def DJS (a : CZ) : Prop := AZ Try.prog DLS ABL (AN ABL) (xCZ a) (AF []) (.tup [.d (AV nilS), .int (AS a)]) [] [] []
theorem DOO (a : CZ) : (DJS a) = ((a.c.p.lo = a.c.p.lo /\ a.c.p.hi = a.c.p.hi /\ a.c.base = a.c.base /\ a.c.scale = a.c.scale /\ a.c.off = a.c.off /\ (AE a.c.ms.length λ (i : Nat) => gD a.c.ms i).length =
 a.c.ms.length /\ (∀ (i : Nat), i < (AE a.c.ms.length λ (i : Nat) => gD a.c.ms i).length -> (gD (AE a.c.ms.length λ (i : Nat) => gD a.c.ms i) i).pl = (gD a.c.ms i).pl /\ (gD (AE a.c.ms.length λ (i : Nat) => gD
 a.c.ms i) i).ht = (gD a.c.ms i).ht) /\ (AE a.c.ns.length λ (i : Nat) => gD a.c.ns i).length = a.c.ns.length /\ (∀ (i : Nat), i < (AE a.c.ns.length λ (i : Nat) => gD a.c.ns i).length -> (gD (AE a.c.ns.length λ (i :
 Nat) => gD a.c.ns i) i).mi = (gD a.c.ns i).mi /\ (gD (AE a.c.ns.length λ (i : Nat) => gD a.c.ns i) i).t.lo = (gD a.c.ns i).t.lo /\ (gD (AE a.c.ns.length λ (i : Nat) => gD a.c.ns i) i).t.hi = (gD a.c.ns i).t.hi /\ (gD
 (AE a.c.ns.length λ (i : Nat) => gD a.c.ns i) i).s.lo = (gD a.c.ns i).s.lo /\ (gD (AE a.c.ns.length λ (i : Nat) => gD a.c.ns i) i).s.hi = (gD a.c.ns i).s.hi) /\ (AE a.z.length λ (i : Nat) => gD a.z i).length =
 a.z.length /\ (∀ (i : Nat), i < (AE a.z.length λ (i : Nat) => gD a.z i).length -> gD (AE a.z.length λ (i : Nat) => gD a.z i) i = gD a.z i) /\ ((AE a.c.ms.length λ (i : Nat) => gD a.c.ms i).length <
 4611686018427387904 /\ (AE a.c.ns.length λ (i : Nat) => gD a.c.ns i).length < 4611686018427387904 /\ (AE a.z.length λ (i : Nat) => gD a.z i).length < 4611686018427387904) /\ AS (CZ.mk (Cht.mk a.c.p a.c.base
 a.c.scale a.c.off (AE a.c.ms.length λ (i : Nat) => gD a.c.ms i) (AE a.c.ns.length λ (i : Nat) => gD a.c.ns i)) (AE a.z.length λ (i : Nat) => gD a.z i)) ≠ 0) /\ 0 = 0 /\ 0 = 0 /\ AS a = AS (CZ.mk (Cht.mk a.c.p
 a.c.base a.c.scale a.c.off (AE a.c.ms.length λ (i : Nat) => gD a.c.ms i) (AE a.c.ns.length λ (i : Nat) => gD a.c.ns i)) (AE a.z.length λ (i : Nat) => gD a.z i))) := by kernel_rfl
theorem BNJ : AP Try.prog BHF (C_Times.spec dCZ) := okT C_Times (λ (a : CZ) h => by
 have h1 : a.c.ms.length < 4611686018427387904 /\ a.c.ns.length < 4611686018427387904 /\ a.z.length < 4611686018427387904 := h
 by_cases c0 : AS a = 0
 ·have e : C_Times.val a = .tup [.d (AV (AX (AI a)).1), .int 0] := by
   show AVal.tup [.d (AV (NT a).1), .int (NT a).2] = _
   unfold NT; rw [c0]; rfl
  rw [e]
  refine TV (A := DJV) (L := []) (keep := []) (ren := []) (fz := []) CPM (by kernel_rfl) (AD CLJ AK) ?_
  show DMB a; rw [DNP]; simp only [CC, eq_self, implies_true, forall_const, BO, WA]
  simp [h1, c0]
 ·have c0' : (AS a == 0) = false := by simpa using c0
  have e : C_Times.val a = .tup [.d (AV nilS), .int (AS a)] := by
   show AVal.tup [.d (AV (NT a).1), .int (NT a).2] = _
   unfold NT; rw [c0']; rfl
  rw [e]
  refine TV (A := DLS) (L := []) (keep := []) (ren := []) (fz := []) CPM (by kernel_rfl) (AD CHY AK) ?_
  show DJS a; rw [DOO]; simp only [CC, eq_self, implies_true, forall_const, BO, WA]
  simp [h1, c0, nilS]) _
end Go.Bal
