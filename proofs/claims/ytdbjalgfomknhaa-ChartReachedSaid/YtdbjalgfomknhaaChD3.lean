/- Package chart: times. -/
import Derived.Test.YtdbjalgfomknhaaChD2
set_option linter.unusedVariables false
set_option linter.unusedSimpArgs false
namespace Go.Bal
open Go Go.Sym Go.Proofs
def AZ (w : Dk) : List Span × Bool := bif FG w.c then (CR w (DQ w.c), (CR w (DQ w.c)).all DZ) else ([], false)
def C_times : Ctr := { ro := [100, 101], α := Dk, xs := λ _ => [.bptr 100 0], L := λ w => dkL w, val := λ w => .tup [.d (AT (AZ w).1), .bool (AZ w).2], keep := λ w => dkK w, pre := λ w => [1 <= w.c.ms.length /\ w.c.ms.length <= 40 /\ nsIn w.c] }
def CWV : Ann := { ann 19 [(CEG, C_all.spec Dh), (AIG, C_not.spec Dh), (HN, C_nar.spec dDkS)] with E := [100, 101] }
def CYC (w : Dk) : Prop := BA Try.prog CWV ADK (AL ADK) (C_times.xs w) (AG (C_times.L w)) (C_times.val w) (C_times.keep w) [] []
abbrev LR (w : Dk) : Prop := w.c.p.lo = w.c.p.lo
abbrev LQ (w : Dk) : Prop := w.c.p.hi = w.c.p.hi
abbrev gK (w : Dk) : List Mk := AF w.c.ms.length λ (i : Nat) => gD w.c.ms i
abbrev LD (w : Dk) : Nat := (gK w).length
abbrev lC (w : Dk) : Prop := LD w = w.c.ms.length
abbrev AWK (w : Dk) (i : Nat) : Mk := gD (gK w) i
abbrev BDB (w : Dk) (i : Nat) : Int := (AWK w i).pl
abbrev ALT (w : Dk) (i : Nat) : Int := (AWK w i).ht
abbrev pB (w : Dk) : Prop := ∀ (i : Nat), i < LD w -> BDB w i = (gD w.c.ms i).pl /\ ALT w i = (gD w.c.ms i).ht
abbrev TS (w : Dk) : List Nt := AF w.c.ns.length λ (i : Nat) => gD w.c.ns i
abbrev Ph (w : Dk) : Nat := (TS w).length
abbrev Ps (w : Dk) : Prop := Ph w = w.c.ns.length
abbrev Km (w : Dk) (i : Nat) : Nt := gD (TS w) i
abbrev yR (w : Dk) (i : Nat) : Int := (Km w i).mi
abbrev A0 (w : Dk) (i : Nat) : Span := (Km w i).t
abbrev sR (w : Dk) (i : Nat) : Int := (A0 w i).lo
abbrev xC (w : Dk) (i : Nat) : Int := (A0 w i).hi
abbrev tQ (w : Dk) (i : Nat) : Span := (Km w i).s
abbrev tI (w : Dk) (i : Nat) : Int := (tQ w i).lo
abbrev F7 (w : Dk) (i : Nat) : Int := (tQ w i).hi
abbrev Jz (w : Dk) : Prop := ∀ (i : Nat), i < Ph w -> yR w i = (gD w.c.ns i).mi /\ sR w i = (gD w.c.ns i).t.lo /\ xC w i = (gD w.c.ns i).t.hi /\ tI w i = (gD w.c.ns i).s.lo /\
 F7 w i = (gD w.c.ns i).s.hi
abbrev JE (w : Dk) : Prop := ∀ (i : Nat), i < 40 -> w.sp i = w.sp i
abbrev Ls (w : Dk) (n : Int) : Bool := hasN (TS w) n
abbrev Mx (w : Dk) : Prop := ∀ (n : Int), Ls w n = hasN w.c.ns n
abbrev IV (w : Dk) : Prop := ∀ (n : Int), w.st n = w.st n
abbrev Mh (w : Dk) (n : Int) : Nt := ntOf (TS w) n
abbrev sT (w : Dk) (n : Int) : Int := (Mh w n).mi
abbrev sW (w : Dk) (n : Int) : Span := (Mh w n).t
abbrev Q0 (w : Dk) (n : Int) : Int := (sW w n).lo
abbrev V4 (w : Dk) (n : Int) : Int := (sW w n).hi
abbrev uU (w : Dk) (n : Int) : Span := (Mh w n).s
abbrev tV (w : Dk) (n : Int) : Int := (uU w n).lo
abbrev vP (w : Dk) (n : Int) : Int := (uU w n).hi
abbrev Pe (w : Dk) : Prop := ∀ (n : Int), sT w n = (ntOf w.c.ns n).mi /\ Q0 w n = (ntOf w.c.ns n).t.lo /\ V4 w n = (ntOf w.c.ns n).t.hi /\ tV w n = (ntOf w.c.ns n).s.lo /\ vP w
 n = (ntOf w.c.ns n).s.hi
abbrev Po (w : Dk) : Prop := w.c.ms.length = LD w
abbrev Py (w : Dk) : Prop := ∀ (i : Nat), i < w.c.ms.length -> (gD w.c.ms i).pl = BDB w i /\ (gD w.c.ms i).ht = ALT w i
abbrev Kx (w : Dk) : Prop := w.c.ns.length = Ph w
abbrev Mc (w : Dk) : Prop := ∀ (i : Nat), i < w.c.ns.length -> (gD w.c.ns i).mi = yR w i /\ (gD w.c.ns i).t.lo = sR w i /\ (gD w.c.ns i).t.hi = xC w i /\ (gD w.c.ns i).s.lo = tI w i /\
 (gD w.c.ns i).s.hi = F7 w i
abbrev Kd (w : Dk) : Prop := ∀ (n : Int), hasN w.c.ns n = Ls w n
abbrev Nv (w : Dk) : Prop := ∀ (n : Int), (ntOf w.c.ns n).mi = sT w n /\ (ntOf w.c.ns n).t.lo = Q0 w n /\ (ntOf w.c.ns n).t.hi = V4 w n /\ (ntOf w.c.ns n).s.lo = tV w n /\ (ntOf w.c.ns
 n).s.hi = vP w n
abbrev S5 (w : Dk) : Prop := 1 <= LD w
abbrev T3 (w : Dk) : Prop := LD w <= 40
abbrev yD (w : Dk) : Prop := S5 w /\ T3 w
abbrev Pn (w : Dk) : Cht := Cht.mk w.c.p w.c.base w.c.scale w.c.off (gK w) (TS w)
abbrev W0 (w : Dk) : Prop := (AZ w).fst.length = 0
abbrev vT (w : Dk) : Prop := LR w /\ LQ w /\ w.c.base = w.c.base /\ w.c.scale = w.c.scale /\ w.c.off = w.c.off /\ w.c.ms.length = w.c.ms.length /\ (∀ (i : Nat), i < w.c.ms.length -> (gD w.c.ms i).pl = (gD
 w.c.ms i).pl /\ (gD w.c.ms i).ht = (gD w.c.ms i).ht) /\ w.c.ns.length = w.c.ns.length /\ (∀ (i : Nat), i < w.c.ns.length -> (gD w.c.ns i).mi = (gD w.c.ns i).mi /\ (gD w.c.ns i).t.lo = (gD w.c.ns i).t.lo /\ (gD w.c.ns i).t.hi =
 (gD w.c.ns i).t.hi /\ (gD w.c.ns i).s.lo = (gD w.c.ns i).s.lo /\ (gD w.c.ns i).s.hi = (gD w.c.ns i).s.hi) /\ JE w /\ AO = AO /\ (∀ (n : Int), hasN w.c.ns n = hasN w.c.ns n) /\ IV w /\ ∀ (n : Int), (ntOf w.c.ns
 n).mi = (ntOf w.c.ns n).mi /\ (ntOf w.c.ns n).t.lo = (ntOf w.c.ns n).t.lo /\ (ntOf w.c.ns n).t.hi = (ntOf w.c.ns n).t.hi /\ (ntOf w.c.ns n).s.lo = (ntOf w.c.ns n).s.lo /\ (ntOf w.c.ns n).s.hi = (ntOf w.c.ns n).s.hi
abbrev uI (w : Dk) : List Span := DQ (Pn w)
abbrev tY (w : Dk) : Nat := (uI w).length
abbrev Jx (w : Dk) (i : Nat) : Span := gD (uI w) i
abbrev Mm (w : Dk) : List Span := AF (tY w) λ (i : Nat) => Jx w i
abbrev Mw (w : Dk) : Nat := (Mm w).length
abbrev R5 (w : Dk) (i : Nat) : Span := gD (Mm w) i
abbrev Oh (w : Dk) : List Span := CR (Dk.mk (Pn w) w.st w.sp) (Mm w)
abbrev L9 (w : Dk) (i : Nat) : Span := gD (AZ w).fst i
abbrev T5 (w : Dk) (i : Nat) : Span := gD (Oh w) i
theorem DBE (w : Dk) : (CYC w) = ((LR w /\ LQ w /\ w.c.base = w.c.base /\ w.c.scale = w.c.scale /\ w.c.off = w.c.off /\ lC w /\ pB w /\ Ps w /\ Jz w /\ JE w /\ AO = AO
 /\ Mx w /\ IV w /\ Pe w /\ LR w /\ LQ w /\ w.c.base = w.c.base /\ w.c.scale = w.c.scale /\ w.c.off = w.c.off /\ Po w /\ Py w /\ Kx w /\ Mc w /\ JE w /\ AO
 = AO /\ Kd w /\ IV w /\ Nv w /\ yD w) /\ bif !FG (Pn w) then W0 w /\ W0 w /\ (AZ w).snd = false /\ vT w else (LR w /\ LQ w /\ w.c.base =
 w.c.base /\ w.c.scale = w.c.scale /\ w.c.off = w.c.off /\ lC w /\ pB w /\ Ps w /\ Jz w /\ JE w /\ AO = AO /\ Mx w /\ IV w /\ Pe w /\ LR w /\ LQ w /\
 w.c.base = w.c.base /\ w.c.scale = w.c.scale /\ w.c.off = w.c.off /\ Po w /\ Py w /\ Kx w /\ Mc w /\ JE w /\ AO = AO /\ Kd w /\ IV w /\ Nv w /\ (S5 w /\
 T3 w /\ ∀ (j : Int), Ls w j = true -> 0 <= j /\ j < (↑(LD w) : Int)) /\ Mw w = tY w /\ (∀ (i : Nat), i < Mw w -> (R5 w i).lo = (Jx w i).lo /\ (R5 w i).hi =
 (Jx w i).hi) /\ LR w /\ LQ w /\ w.c.base = w.c.base /\ w.c.scale = w.c.scale /\ w.c.off = w.c.off /\ lC w /\ pB w /\ Ps w /\ Jz w /\ JE w /\ AO = AO /\ Mx w /\
 IV w /\ Pe w /\ LR w /\ LQ w /\ w.c.base = w.c.base /\ w.c.scale = w.c.scale /\ w.c.off = w.c.off /\ Po w /\ Py w /\ Kx w /\ Mc w /\ JE w /\ AO = AO /\
 Kd w /\ IV w /\ Nv w /\ Mw w = LD w /\ yD w) /\ (AZ w).fst.length = (Oh w).length /\ (∀ (i : Nat), i < (AZ w).fst.length -> (L9 w i).lo = (T5 w
 i).lo /\ (L9 w i).hi = (T5 w i).hi) /\ (AZ w).snd = (Oh w).all DZ /\ vT w) := by kernel_rfl
theorem NE (a : CZ) : CZ.mk a.c a.z = a := rfl
theorem CJ (c : Cht) : (DQ c).length = c.ms.length := rng_length _ _
theorem AGA : AN Try.prog Ap (C_times.spec Dh) := MB C_times (λ _ => CWV) [] [] CSF (λ _ => by kernel_rfl) (λ _ => AD BRU (AD CUP (AD BYL AI))) (λ (w : Dk) h => by
 obtain ⟨h1, h2, h3⟩ : 1 <= w.c.ms.length /\ w.c.ms.length <= 40 /\ nsIn w.c := h
 show CYC w; rw [DBE]; delta LR LQ gK LD lC AWK BDB ALT pB TS Ph Ps Km yR A0 sR xC tQ tI F7 Jz JE Ls Mx IV Mh sT sW Q0 V4 uU tV vP Pe Po Py Kx Mc Kd Nv S5 T3 yD Pn W0 vT uI tY Jx Mm Mw R5 Oh L9 T5; simp only [AU, eq_self, implies_true, and_self, true_and, and_true, true_implies, forall_const, decide_eq_true_eq, decide_eq_false_iff_not, Int.toNat_natCast, dSpan_eSpan, dInt_eInt, AY, AW, AX, Nat.zero_add, Int.zero_sub, Nat.le_eq, Nat.succ_eq_add_one, Nat.add_one_le_iff, Bool.not_eq_true', Bool.not_eq_false', rng_length, AK, AJ, BI, RO]
 refine ⟨⟨h1, h2⟩, λ h => ?_, λ h => ⟨⟨⟨h1, h2, h3⟩, CJ _, h1, h2⟩, ?_⟩⟩
 ·unfold AZ; rw [h]; exact ⟨rfl, rfl, rfl⟩
 ·unfold AZ; rw [h]; exact ⟨rfl, λ _ _ => ⟨rfl, rfl⟩, rfl⟩) (λ _ => OS rfl rfl) _
def AS (a : CZ) : Int := bif AM a.c == 0 then bif okZ a then bif (AZ (AB a)).2 then 0 else 6 else 2 else AM a.c
def C_rdO : Ctr := { α := CZ, xs := xCZ, val := λ a => .tup [.bptr 0 0, .d (AT (AZ (AB a)).1), .d (AT (BE a.c)), .int 0], keep := λ a => dkN (AB a), pre := λ a => [(a.c.ms.length < 4611686018427387904 /\ a.c.ns.length < 4611686018427387904 /\ a.z.length < 4611686018427387904) /\ AS a = 0] }
def C_rdX : Ctr := { α := CZ, xs := xCZ, val := λ a => .tup [.d (.v (.pointer none)), .d FL, .d FL, .int (AS a)], keep := λ _ => [], pre := λ a => [(a.c.ms.length < 4611686018427387904 /\ a.c.ns.length < 4611686018427387904 /\ a.z.length < 4611686018427387904) /\ AS a ≠ 0] }
def A_rd : Ann := ann 38 [(RZ, C_beg.spec dCZ), (Ap, C_times.spec Dh), (CEG, C_all.spec Dh)]
def DMV : Ann := ann 38 [(RZ, C_begX.spec dCZ)]
def DMY (a : CZ) : Prop := BA Try.prog A_rd E5 (AL E5) (xCZ a) (AG []) (C_rdO.val a) (C_rdO.keep a) [(0, 2032), (1, 2033)] []
abbrev BJT (a : CZ) : List Mk := AF a.c.ms.length λ (i : Nat) => gD a.c.ms i
abbrev BLQ (a : CZ) : Nat := (BJT a).length
abbrev CGY (a : CZ) (i : Nat) : Mk := gD (BJT a) i
abbrev BIT (a : CZ) : List Nt := AF a.c.ns.length λ (i : Nat) => gD a.c.ns i
abbrev BLP (a : CZ) : Nat := (BIT a).length
abbrev BKP (a : CZ) (i : Nat) : Nt := gD (BIT a) i
abbrev CKN (a : CZ) (i : Nat) : Span := (BKP a i).t
abbrev CHA (a : CZ) (i : Nat) : Span := (BKP a i).s
abbrev BJU (a : CZ) : List Int := AF a.z.length λ (i : Nat) => gD a.z i
abbrev BJG (a : CZ) : Nat := (BJU a).length
abbrev BUI (a : CZ) : Cht := Cht.mk a.c.p a.c.base a.c.scale a.c.off (BJT a) (BIT a)
abbrev BPJ (a : CZ) : CZ := CZ.mk (BUI a) (BJU a)
abbrev Jc (a : CZ) : Dk := AB (BPJ a)
abbrev WP (a : CZ) : Cht := (Jc a).c
abbrev AHC (a : CZ) : Span := (WP a).p
abbrev ADA (a : CZ) : Int := (AHC a).lo
abbrev cR (a : CZ) : Prop := ADA a = ADA a
abbrev ACZ (a : CZ) : Int := (AHC a).hi
abbrev cQ (a : CZ) : Prop := ACZ a = ACZ a
abbrev Wp (a : CZ) : Int := (WP a).base
abbrev cU (a : CZ) : Prop := Wp a = Wp a
abbrev Xp (a : CZ) : Int := (WP a).scale
abbrev Tt (a : CZ) : Prop := Xp a = Xp a
abbrev cB (a : CZ) : Int := (WP a).off
abbrev Sg (a : CZ) : Prop := cB a = cB a
abbrev BZG (a : CZ) : List Mk := (WP a).ms
abbrev Il (a : CZ) : Nat := (BZG a).length
abbrev ABC (a : CZ) (i : Nat) : Mk := gD (BZG a) i
abbrev AFA (a : CZ) : List Mk := AF (Il a) λ (i : Nat) => ABC a i
abbrev XD (a : CZ) : Nat := (AFA a).length
abbrev BRO (a : CZ) : Prop := XD a = Il a
abbrev BUQ (a : CZ) (i : Nat) : Mk := gD (AFA a) i
abbrev BTL (a : CZ) (i : Nat) : Int := (BUQ a i).pl
abbrev AEI (a : CZ) (i : Nat) : Int := (ABC a i).pl
abbrev BUR (a : CZ) (i : Nat) : Int := (BUQ a i).ht
abbrev AGD (a : CZ) (i : Nat) : Int := (ABC a i).ht
abbrev BQG (a : CZ) : Prop := ∀ (i : Nat), i < XD a -> BTL a i = AEI a i /\ BUR a i = AGD a i
abbrev Xa (a : CZ) : List Nt := (WP a).ns
abbrev Fm (a : CZ) : Nat := (Xa a).length
abbrev Yf (a : CZ) (i : Nat) : Nt := gD (Xa a) i
abbrev Fk (a : CZ) : List Nt := AF (Fm a) λ (i : Nat) => Yf a i
abbrev AAU (a : CZ) : Nat := (Fk a).length
abbrev BZM (a : CZ) : Prop := AAU a = Fm a
abbrev AIO (a : CZ) (i : Nat) : Nt := gD (Fk a) i
abbrev BSQ (a : CZ) (i : Nat) : Int := (AIO a i).mi
abbrev AED (a : CZ) (i : Nat) : Int := (Yf a i).mi
abbrev BOX (a : CZ) (i : Nat) : Span := (AIO a i).t
abbrev BPQ (a : CZ) (i : Nat) : Int := (BOX a i).lo
abbrev BMQ (a : CZ) (i : Nat) : Span := (Yf a i).t
abbrev ADT (a : CZ) (i : Nat) : Int := (BMQ a i).lo
abbrev BXB (a : CZ) (i : Nat) : Int := (BOX a i).hi
abbrev AEF (a : CZ) (i : Nat) : Int := (BMQ a i).hi
abbrev BNW (a : CZ) (i : Nat) : Span := (AIO a i).s
abbrev BWF (a : CZ) (i : Nat) : Int := (BNW a i).lo
abbrev BQK (a : CZ) (i : Nat) : Span := (Yf a i).s
abbrev ABM (a : CZ) (i : Nat) : Int := (BQK a i).lo
abbrev BNY (a : CZ) (i : Nat) : Int := (BNW a i).hi
abbrev ABO (a : CZ) (i : Nat) : Int := (BQK a i).hi
abbrev BYM (a : CZ) : Prop := ∀ (i : Nat), i < AAU a -> BSQ a i = AED a i /\ BPQ a i = ADT a i /\ BXB a i = AEF a i /\ BWF a i = ABM a i /\ BNY a i = ABO a i
abbrev AAH (a : CZ) (i : Nat) : Bool := (Jc a).sp i
abbrev aI (a : CZ) : Prop := ∀ (i : Nat), i < (40 : Nat) -> AAH a i = AAH a i
abbrev AIE (a : CZ) (n : Int) : Bool := hasN (Fk a) n
abbrev AGH (a : CZ) (n : Int) : Bool := hasN (Xa a) n
abbrev BTG (a : CZ) : Prop := ∀ (n : Int), AIE a n = AGH a n
abbrev AJM (a : CZ) (n : Int) : Int := (Jc a).st n
abbrev Sl (a : CZ) : Prop := ∀ (n : Int), AJM a n = AJM a n
abbrev AHE (a : CZ) (n : Int) : Nt := ntOf (Fk a) n
abbrev BYU (a : CZ) (n : Int) : Int := (AHE a n).mi
abbrev ABB (a : CZ) (n : Int) : Nt := ntOf (Xa a) n
abbrev ACQ (a : CZ) (n : Int) : Int := (ABB a n).mi
abbrev BYC (a : CZ) (n : Int) : Span := (AHE a n).t
abbrev BZE (a : CZ) (n : Int) : Int := (BYC a n).lo
abbrev CBZ (a : CZ) (n : Int) : Span := (ABB a n).t
abbrev AIZ (a : CZ) (n : Int) : Int := (CBZ a n).lo
abbrev CBG (a : CZ) (n : Int) : Int := (BYC a n).hi
abbrev ACR (a : CZ) (n : Int) : Int := (CBZ a n).hi
abbrev BOQ (a : CZ) (n : Int) : Span := (AHE a n).s
abbrev BSW (a : CZ) (n : Int) : Int := (BOQ a n).lo
abbrev BZZ (a : CZ) (n : Int) : Span := (ABB a n).s
abbrev ADB (a : CZ) (n : Int) : Int := (BZZ a n).lo
abbrev BVM (a : CZ) (n : Int) : Int := (BOQ a n).hi
abbrev AFZ (a : CZ) (n : Int) : Int := (BZZ a n).hi
abbrev CCU (a : CZ) : Prop := ∀ (n : Int), BYU a n = ACQ a n /\ BZE a n = AIZ a n /\ CBG a n = ACR a n /\ BSW a n = ADB a n /\ BVM a n = AFZ a n
abbrev BUV (a : CZ) : Prop := Il a = XD a
abbrev BZW (a : CZ) : Prop := ∀ (i : Nat), i < Il a -> AEI a i = BTL a i /\ AGD a i = BUR a i
abbrev BWC (a : CZ) : Prop := Fm a = AAU a
abbrev BNL (a : CZ) : Prop := ∀ (i : Nat), i < Fm a -> AED a i = BSQ a i /\ ADT a i = BPQ a i /\ AEF a i = BXB a i /\ ABM a i = BWF a i /\ ABO a i = BNY a i
abbrev CAI (a : CZ) : Prop := ∀ (n : Int), AGH a n = AIE a n
abbrev BWD (a : CZ) : Prop := ∀ (n : Int), ACQ a n = BYU a n /\ AIZ a n = BZE a n /\ ACR a n = CBG a n /\ ADB a n = BSW a n /\ AFZ a n = BVM a n
abbrev BSM (a : CZ) : Prop := (1 : Nat) <= XD a
abbrev BST (a : CZ) : Prop := XD a <= (40 : Nat)
abbrev BVD (a : CZ) : Cht := Cht.mk (AHC a) (Wp a) (Xp a) (cB a) (AFA a) (Fk a)
abbrev BSI (a : CZ) : List Span × Bool := AZ (Dk.mk (BVD a) (Jc a).st (Jc a).sp)
abbrev BRA (a : CZ) : List Span := (BSI a).fst
abbrev CBJ (a : CZ) (i : Nat) : Span := gD (AZ (AB a)).fst i
abbrev BON (a : CZ) (i : Nat) : Span := gD (BRA a) i
abbrev BNC (a : CZ) : List Span := BE (BVD a)
abbrev CCG (a : CZ) (i : Nat) : Span := gD (BNC a) i
theorem DRQ (a : CZ) : (DMY a) = ((a.c.p.lo = a.c.p.lo /\ a.c.p.hi = a.c.p.hi /\ a.c.base = a.c.base /\ a.c.scale = a.c.scale /\ a.c.off = a.c.off /\ BLQ a = a.c.ms.length /\ (∀ (i : Nat), i < BLQ a -> (CGY a
 i).pl = (gD a.c.ms i).pl /\ (CGY a i).ht = (gD a.c.ms i).ht) /\ BLP a = a.c.ns.length /\ (∀ (i : Nat), i < BLP a -> (BKP a i).mi = (gD a.c.ns i).mi /\ (CKN a i).lo = (gD a.c.ns i).t.lo /\ (CKN a i).hi =
 (gD a.c.ns i).t.hi /\ (CHA a i).lo = (gD a.c.ns i).s.lo /\ (CHA a i).hi = (gD a.c.ns i).s.hi) /\ BJG a = a.z.length /\ (∀ (i : Nat), i < BJG a -> gD (BJU a) i = gD a.z i) /\ (BLQ a <
 (4611686018427387904 : Nat) /\ BLP a < (4611686018427387904 : Nat) /\ BJG a < (4611686018427387904 : Nat)) /\ AM (BUI a) = (0 : Int)) /\ bif GD (BPJ a) != (0 : Int) then False else (cR a /\
 cQ a /\ cU a /\ Tt a /\ Sg a /\ BRO a /\ BQG a /\ BZM a /\ BYM a /\ aI a /\ AO = AO /\ BTG a /\ Sl a /\ CCU a /\ cR a /\ cQ a /\ cU a /\ Tt a /\
 Sg a /\ BUV a /\ BZW a /\ BWC a /\ BNL a /\ aI a /\ AO = AO /\ CAI a /\ Sl a /\ BWD a /\ BSM a /\ BST a /\ ∀ (j : Int), AIE a j = true -> (0 : Int) <= j /\ j <
 (↑(XD a) : Int)) /\ bif !(BSI a).snd then False else (cR a /\ cQ a /\ cU a /\ Tt a /\ Sg a /\ BRO a /\ BQG a /\ BZM a /\ BYM a /\ aI a /\ AO = AO /\ BTG a /\
 Sl a /\ CCU a /\ cR a /\ cQ a /\ cU a /\ Tt a /\ Sg a /\ BUV a /\ BZW a /\ BWC a /\ BNL a /\ aI a /\ AO = AO /\ CAI a /\ Sl a /\ BWD a /\ BSM a /\
 BST a) /\ (AZ (AB a)).fst.length = (BRA a).length /\ (∀ (i : Nat), i < (AZ (AB a)).fst.length -> (CBJ a i).lo = (BON a i).lo /\ (CBJ a i).hi = (BON a i).hi) /\ (BE a.c).length =
 (BNC a).length /\ (∀ (i : Nat), i < (BE a.c).length -> (gD (BE a.c) i).lo = (CCG a i).lo /\ (gD (BE a.c) i).hi = (CCG a i).hi) /\ Int.ofNat (0 : Nat) = Int.ofNat (0 : Nat) /\ (AB a).c.p.lo = ADA a
 /\ (AB a).c.p.hi = ACZ a /\ (AB a).c.base = Wp a /\ (AB a).c.scale = Xp a /\ (AB a).c.off = cB a /\ (AB a).c.ms.length = Il a /\ (∀ (i : Nat), i < (AB a).c.ms.length -> (gD (AB a).c.ms
 i).pl = AEI a i /\ (gD (AB a).c.ms i).ht = AGD a i) /\ (AB a).c.ns.length = Fm a /\ (∀ (i : Nat), i < (AB a).c.ns.length -> (gD (AB a).c.ns i).mi = AED a i /\ (gD (AB a).c.ns i).t.lo = ADT
 a i /\ (gD (AB a).c.ns i).t.hi = AEF a i /\ (gD (AB a).c.ns i).s.lo = ABM a i /\ (gD (AB a).c.ns i).s.hi = ABO a i) /\ (∀ (i : Nat), i < (40 : Nat) -> (AB a).sp i = AAH a i) /\ AO = AO /\ (∀ (n :
 Int), hasN (AB a).c.ns n = AGH a n) /\ (∀ (n : Int), (AB a).st n = AJM a n) /\ ∀ (n : Int), (ntOf (AB a).c.ns n).mi = ACQ a n /\ (ntOf (AB a).c.ns n).t.lo = AIZ a n /\ (ntOf (AB a).c.ns n).t.hi
 = ACR a n /\ (ntOf (AB a).c.ns n).s.lo = ADB a n /\ (ntOf (AB a).c.ns n).s.hi = AFZ a n) := by kernel_rfl
def DES (a : CZ) : Prop := BA Try.prog A_rd E5 (AL E5) (xCZ a) (AG []) (C_rdX.val a) [] [] []
abbrev ADR (a : CZ) : List Mk := AF a.c.ms.length λ (i : Nat) => gD a.c.ms i
abbrev ABN (a : CZ) : Nat := (ADR a).length
abbrev BTB (a : CZ) (i : Nat) : Mk := gD (ADR a) i
abbrev AHD (a : CZ) : List Nt := AF a.c.ns.length λ (i : Nat) => gD a.c.ns i
abbrev ABA (a : CZ) : Nat := (AHD a).length
abbrev ADE (a : CZ) (i : Nat) : Nt := gD (AHD a) i
abbrev BQR (a : CZ) (i : Nat) : Span := (ADE a i).t
abbrev BYW (a : CZ) (i : Nat) : Span := (ADE a i).s
abbrev ACK (a : CZ) : List Int := AF a.z.length λ (i : Nat) => gD a.z i
abbrev ABP (a : CZ) : Nat := (ACK a).length
abbrev BBT (a : CZ) : Cht := Cht.mk a.c.p a.c.base a.c.scale a.c.off (ADR a) (AHD a)
abbrev BDX (a : CZ) : CZ := CZ.mk (BBT a) (ACK a)
abbrev BGF (a : CZ) : Int := GD (BDX a)
abbrev Gz : Prop := 0 = 0
abbrev Gt : Prop := ∀ (i : Nat), i < 0 -> false = false
abbrev TE (a : CZ) : Dk := AB (BDX a)
abbrev NA (a : CZ) : Cht := (TE a).c
abbrev qC (a : CZ) : Span := (NA a).p
abbrev BFK (a : CZ) : Int := (qC a).lo
abbrev Iz (a : CZ) : Prop := BFK a = BFK a
abbrev AVX (a : CZ) : Int := (qC a).hi
abbrev Fg (a : CZ) : Prop := AVX a = AVX a
abbrev iV (a : CZ) : Int := (NA a).base
abbrev Ed (a : CZ) : Prop := iV a = iV a
abbrev lW (a : CZ) : Int := (NA a).scale
abbrev Ip (a : CZ) : Prop := lW a = lW a
abbrev nN (a : CZ) : Int := (NA a).off
abbrev Je (a : CZ) : Prop := nN a = nN a
abbrev BBY (a : CZ) : List Mk := (NA a).ms
abbrev Ig (a : CZ) : Nat := (BBY a).length
abbrev lT (a : CZ) (i : Nat) : Mk := gD (BBY a) i
abbrev hZ (a : CZ) : List Mk := AF (Ig a) λ (i : Nat) => lT a i
abbrev MY (a : CZ) : Nat := (hZ a).length
abbrev ASV (a : CZ) : Prop := MY a = Ig a
abbrev ATR (a : CZ) (i : Nat) : Mk := gD (hZ a) i
abbrev AQJ (a : CZ) (i : Nat) : Int := (ATR a i).pl
abbrev ASX (a : CZ) (i : Nat) : Int := (lT a i).pl
abbrev APN (a : CZ) (i : Nat) : Int := (ATR a i).ht
abbrev AMF (a : CZ) (i : Nat) : Int := (lT a i).ht
abbrev BCM (a : CZ) : Prop := ∀ (i : Nat), i < MY a -> AQJ a i = ASX a i /\ APN a i = AMF a i
abbrev Dn (a : CZ) : List Nt := (NA a).ns
abbrev El (a : CZ) : Nat := (Dn a).length
abbrev Ir (a : CZ) (i : Nat) : Nt := gD (Dn a) i
abbrev UG (a : CZ) : List Nt := AF (El a) λ (i : Nat) => Ir a i
abbrev iA (a : CZ) : Nat := (UG a).length
abbrev AZS (a : CZ) : Prop := iA a = El a
abbrev iU (a : CZ) (i : Nat) : Nt := gD (UG a) i
abbrev AQL (a : CZ) (i : Nat) : Int := (iU a i).mi
abbrev AKP (a : CZ) (i : Nat) : Int := (Ir a i).mi
abbrev BEW (a : CZ) (i : Nat) : Span := (iU a i).t
abbrev AOP (a : CZ) (i : Nat) : Int := (BEW a i).lo
abbrev ARB (a : CZ) (i : Nat) : Span := (Ir a i).t
abbrev ANQ (a : CZ) (i : Nat) : Int := (ARB a i).lo
abbrev AKB (a : CZ) (i : Nat) : Int := (BEW a i).hi
abbrev AZL (a : CZ) (i : Nat) : Int := (ARB a i).hi
abbrev AWJ (a : CZ) (i : Nat) : Span := (iU a i).s
abbrev BDZ (a : CZ) (i : Nat) : Int := (AWJ a i).lo
abbrev AOE (a : CZ) (i : Nat) : Span := (Ir a i).s
abbrev BDL (a : CZ) (i : Nat) : Int := (AOE a i).lo
abbrev AXC (a : CZ) (i : Nat) : Int := (AWJ a i).hi
abbrev APB (a : CZ) (i : Nat) : Int := (AOE a i).hi
abbrev BEJ (a : CZ) : Prop := ∀ (i : Nat), i < iA a -> AQL a i = AKP a i /\ AOP a i = ANQ a i /\ AKB a i = AZL a i /\ BDZ a i = BDL a i /\ AXC a i = APB
 a i
abbrev ASQ (a : CZ) (i : Nat) : Bool := (TE a).sp i
abbrev Hc (a : CZ) : Prop := ∀ (i : Nat), i < 40 -> ASQ a i = ASQ a i
abbrev mC (a : CZ) (n : Int) : Bool := hasN (UG a) n
abbrev APA (a : CZ) (n : Int) : Bool := hasN (Dn a) n
abbrev AVN (a : CZ) : Prop := ∀ (n : Int), mC a n = APA a n
abbrev ALI (a : CZ) (n : Int) : Int := (TE a).st n
abbrev Ez (a : CZ) : Prop := ∀ (n : Int), ALI a n = ALI a n
abbrev iS (a : CZ) (n : Int) : Nt := ntOf (UG a) n
abbrev AUD (a : CZ) (n : Int) : Int := (iS a n).mi
abbrev kG (a : CZ) (n : Int) : Nt := ntOf (Dn a) n
abbrev BDU (a : CZ) (n : Int) : Int := (kG a n).mi
abbrev BGM (a : CZ) (n : Int) : Span := (iS a n).t
abbrev AQF (a : CZ) (n : Int) : Int := (BGM a n).lo
abbrev ANU (a : CZ) (n : Int) : Span := (kG a n).t
abbrev ANH (a : CZ) (n : Int) : Int := (ANU a n).lo
abbrev ATV (a : CZ) (n : Int) : Int := (BGM a n).hi
abbrev AKV (a : CZ) (n : Int) : Int := (ANU a n).hi
abbrev ATZ (a : CZ) (n : Int) : Span := (iS a n).s
abbrev BFI (a : CZ) (n : Int) : Int := (ATZ a n).lo
abbrev AKW (a : CZ) (n : Int) : Span := (kG a n).s
abbrev AQC (a : CZ) (n : Int) : Int := (AKW a n).lo
abbrev APZ (a : CZ) (n : Int) : Int := (ATZ a n).hi
abbrev AWM (a : CZ) (n : Int) : Int := (AKW a n).hi
abbrev ARZ (a : CZ) : Prop := ∀ (n : Int), AUD a n = BDU a n /\ AQF a n = ANH a n /\ ATV a n = AKV a n /\ BFI a n = AQC a n /\ APZ a n = AWM a n
abbrev AQK (a : CZ) : Prop := Ig a = MY a
abbrev AXK (a : CZ) : Prop := ∀ (i : Nat), i < Ig a -> ASX a i = AQJ a i /\ AMF a i = APN a i
abbrev BCI (a : CZ) : Prop := El a = iA a
abbrev BGT (a : CZ) : Prop := ∀ (i : Nat), i < El a -> AKP a i = AQL a i /\ ANQ a i = AOP a i /\ AZL a i = AKB a i /\ BDL a i = BDZ a i /\ APB a i = AXC
 a i
abbrev BCH (a : CZ) : Prop := ∀ (n : Int), APA a n = mC a n
abbrev ATH (a : CZ) : Prop := ∀ (n : Int), BDU a n = AUD a n /\ ANH a n = AQF a n /\ AKV a n = ATV a n /\ AQC a n = BFI a n /\ AWM a n = APZ a n
abbrev AUB (a : CZ) : Prop := 1 <= MY a
abbrev BHA (a : CZ) : Prop := MY a <= 40
theorem DLC (a : CZ) : (DES a) = ((a.c.p.lo = a.c.p.lo /\ a.c.p.hi = a.c.p.hi /\ a.c.base = a.c.base /\ a.c.scale = a.c.scale /\ a.c.off = a.c.off /\ ABN a = a.c.ms.length /\ (∀ (i : Nat), i < ABN a ->
 (BTB a i).pl = (gD a.c.ms i).pl /\ (BTB a i).ht = (gD a.c.ms i).ht) /\ ABA a = a.c.ns.length /\ (∀ (i : Nat), i < ABA a -> (ADE a i).mi = (gD a.c.ns i).mi /\ (BQR a i).lo = (gD a.c.ns i).t.lo /\
 (BQR a i).hi = (gD a.c.ns i).t.hi /\ (BYW a i).lo = (gD a.c.ns i).s.lo /\ (BYW a i).hi = (gD a.c.ns i).s.hi) /\ ABP a = a.z.length /\ (∀ (i : Nat), i < ABP a -> gD (ACK a) i = gD a.z i) /\
 (ABN a < 4611686018427387904 /\ ABA a < 4611686018427387904 /\ ABP a < 4611686018427387904) /\ AM (BBT a) = 0) /\ bif BGF a != 0 then Value.pointer none = Value.pointer none /\ Gz /\
 Gt /\ Gz /\ Gt /\ AS a = BGF a else (Iz a /\ Fg a /\ Ed a /\ Ip a /\ Je a /\ ASV a /\ BCM a /\ AZS a /\ BEJ a /\ Hc a /\ AO = AO /\
 AVN a /\ Ez a /\ ARZ a /\ Iz a /\ Fg a /\ Ed a /\ Ip a /\ Je a /\ AQK a /\ AXK a /\ BCI a /\ BGT a /\ Hc a /\ AO = AO /\ BCH a /\ Ez a
 /\ ATH a /\ AUB a /\ BHA a /\ ∀ (j : Int), mC a j = true -> 0 <= j /\ j < (↑(MY a) : Int)) /\ bif !(AZ (Dk.mk (Cht.mk (qC a) (iV a) (lW a) (nN a) (hZ a)
 (UG a)) (TE a).st (TE a).sp)).snd then Value.pointer none = Value.pointer none /\ Gz /\ Gt /\ Gz /\ Gt /\ AS a = 6 else (Iz a /\ Fg a /\ Ed a /\ Ip
 a /\ Je a /\ ASV a /\ BCM a /\ AZS a /\ BEJ a /\ Hc a /\ AO = AO /\ AVN a /\ Ez a /\ ARZ a /\ Iz a /\ Fg a /\ Ed a /\ Ip a /\ Je a /\
 AQK a /\ AXK a /\ BCI a /\ BGT a /\ Hc a /\ AO = AO /\ BCH a /\ Ez a /\ ATH a /\ AUB a /\ BHA a) /\ False) := by kernel_rfl
def DGW (a : CZ) : Prop := BA Try.prog DMV E5 (AL E5) (xCZ a) (AG []) (C_rdX.val a) [] [] []
theorem DJN (a : CZ) : (DGW a) = ((a.c.p.lo = a.c.p.lo /\ a.c.p.hi = a.c.p.hi /\ a.c.base = a.c.base /\ a.c.scale = a.c.scale /\ a.c.off = a.c.off /\ (AF a.c.ms.length λ (i : Nat) => gD a.c.ms i).length =
 a.c.ms.length /\ (∀ (i : Nat), i < (AF a.c.ms.length λ (i : Nat) => gD a.c.ms i).length -> (gD (AF a.c.ms.length λ (i : Nat) => gD a.c.ms i) i).pl = (gD a.c.ms i).pl /\ (gD (AF a.c.ms.length λ (i : Nat) => gD
 a.c.ms i) i).ht = (gD a.c.ms i).ht) /\ (AF a.c.ns.length λ (i : Nat) => gD a.c.ns i).length = a.c.ns.length /\ (∀ (i : Nat), i < (AF a.c.ns.length λ (i : Nat) => gD a.c.ns i).length -> (gD (AF a.c.ns.length λ (i :
 Nat) => gD a.c.ns i) i).mi = (gD a.c.ns i).mi /\ (gD (AF a.c.ns.length λ (i : Nat) => gD a.c.ns i) i).t.lo = (gD a.c.ns i).t.lo /\ (gD (AF a.c.ns.length λ (i : Nat) => gD a.c.ns i) i).t.hi = (gD a.c.ns i).t.hi /\ (gD
 (AF a.c.ns.length λ (i : Nat) => gD a.c.ns i) i).s.lo = (gD a.c.ns i).s.lo /\ (gD (AF a.c.ns.length λ (i : Nat) => gD a.c.ns i) i).s.hi = (gD a.c.ns i).s.hi) /\ (AF a.z.length λ (i : Nat) => gD a.z i).length =
 a.z.length /\ (∀ (i : Nat), i < (AF a.z.length λ (i : Nat) => gD a.z i).length -> gD (AF a.z.length λ (i : Nat) => gD a.z i) i = gD a.z i) /\ ((AF a.c.ms.length λ (i : Nat) => gD a.c.ms i).length <
 4611686018427387904 /\ (AF a.c.ns.length λ (i : Nat) => gD a.c.ns i).length < 4611686018427387904 /\ (AF a.z.length λ (i : Nat) => gD a.z i).length < 4611686018427387904) /\ AM (Cht.mk a.c.p a.c.base a.c.scale
 a.c.off (AF a.c.ms.length λ (i : Nat) => gD a.c.ms i) (AF a.c.ns.length λ (i : Nat) => gD a.c.ns i)) ≠ 0) /\ bif GD (CZ.mk (Cht.mk a.c.p a.c.base a.c.scale a.c.off (AF a.c.ms.length λ (i : Nat) => gD a.c.ms i)
 (AF a.c.ns.length λ (i : Nat) => gD a.c.ns i)) (AF a.z.length λ (i : Nat) => gD a.z i)) != 0 then Value.pointer none = Value.pointer none /\ 0 = 0 /\ (∀ (i : Nat), i < 0 -> false = false) /\ 0 = 0 /\ (∀ (i : Nat), i < 0
 -> false = false) /\ AS a = GD (CZ.mk (Cht.mk a.c.p a.c.base a.c.scale a.c.off (AF a.c.ms.length λ (i : Nat) => gD a.c.ms i) (AF a.c.ns.length λ (i : Nat) => gD a.c.ns i)) (AF a.z.length λ (i : Nat) => gD a.z
 i)) else False) := by kernel_rfl
theorem QZ (a : CZ) : Dk.mk a.c (AB a).st (AB a).sp = AB a := rfl
theorem SB {c : Cht} (h : AM c = 0) : nsIn c /\ ∀ n ∈ c.ns, CF n c.ms.length = true := by
 obtain ⟨h1, ⟨h2, h3⟩, h4⟩ := DG h
 have hr : c.ns.all (λ n => CF n c.ms.length) = true := by
  cases hq : c.ns.all (λ n => CF n c.ms.length) with
  | true => rfl
  | false =>
   unfold AM at h
   rw [h1, hq] at h
   cases hm : (mkC (-1) c.ms != 0) with
   | true =>
    rw [hm] at h
    have h : mkC (-1) c.ms = 0 := h
    rw [h] at hm; cases hm
   | false => rw [hm] at h; cases h
 refine ⟨λ j hj => ?_, λ n hn => List.all_eq_true.1 hr n hn⟩
 unfold hasN at hj
 obtain ⟨x, hx, e⟩ := List.any_eq_true.1 hj
 have e : x.mi = j := by simpa using e
 have := List.all_eq_true.1 hr x hx
 unfold CF DT wr at this
 rw [EN (by omega) (by omega)] at this
 simp only [Bool.and_eq_true, decide_eq_true_eq] at this
 omega
theorem PO {a : CZ} (h : AS a = 0) : AM a.c = 0 /\ okZ a = true /\ (AZ (AB a)).2 = true := by
 unfold AS at h
 cases h1 : (AM a.c == 0) with
 | false => rw [h1] at h; have h : AM a.c = 0 := h; rw [h] at h1; cases h1
 | true =>
  rw [h1] at h
  cases h2 : okZ a with
  | false => rw [h2] at h; cases h
  | true =>
   rw [h2] at h
   cases h3 : (AZ (AB a)).2 with
   | false => rw [h3] at h; cases h
   | true => exact ⟨by simpa using h1, rfl, rfl⟩
theorem CMO : AN Try.prog WL (C_rdO.spec dCZ) := MB C_rdO (λ _ => A_rd) [(0, 2032), (1, 2033)] [] CKK (λ _ => by kernel_rfl) (λ _ => AD BUS (AD AGA (AD BRU AI))) (λ (a : CZ) h => by
 obtain ⟨h1, h2⟩ : (a.c.ms.length < 4611686018427387904 /\ a.c.ns.length < 4611686018427387904 /\ a.z.length < 4611686018427387904) /\ AS a = 0 := h
 obtain ⟨c0, c1, c2⟩ := PO h2
 have e : GD a = 0 := by unfold GD; rw [c0, c1]; rfl
 have hl := DG c0
 have hn := (SB c0).1
 show DMY a; rw [DRQ]; delta BJT BLQ CGY BIT BLP BKP CKN CHA BJU BJG BUI BPJ Jc WP AHC ADA cR ACZ cQ Wp cU Xp Tt cB Sg BZG Il ABC AFA XD BRO BUQ BTL AEI BUR AGD BQG Xa Fm Yf Fk AAU BZM AIO BSQ AED BOX BPQ BMQ ADT BXB AEF BNW BWF BQK ABM BNY ABO BYM AAH aI AIE AGH BTG AJM Sl AHE BYU ABB ACQ BYC BZE CBZ AIZ CBG ACR BOQ BSW BZZ ADB BVM AFZ CCU BUV BZW BWC BNL CAI BWD BSM BST BVD BSI BRA CBJ BON BNC CCG; simp only [AU, eq_self, implies_true, and_self, true_and, and_true, true_implies, forall_const, decide_eq_true_eq, decide_eq_false_iff_not, Int.toNat_natCast, dSpan_eSpan, dInt_eInt, AY, AW, AX, Nat.zero_add, Int.zero_sub, Nat.le_eq, Nat.succ_eq_add_one, Nat.add_one_le_iff, Bool.not_eq_true', Bool.not_eq_false', rng_length, AK, AJ, BI, RO, WH, NE, QZ, e, c2]
 exact ⟨⟨h1, c0⟩, (λ h => by simp at h), λ _ => ⟨⟨by omega, by omega, hn⟩, (λ h => by cases h), by omega, by omega⟩⟩) (λ _ => OS rfl rfl) _
theorem CJW : AN Try.prog WL (C_rdX.spec dCZ) := okT C_rdX (λ (a : CZ) h => by
 obtain ⟨h1, h2⟩ : (a.c.ms.length < 4611686018427387904 /\ a.c.ns.length < 4611686018427387904 /\ a.z.length < 4611686018427387904) /\ AS a ≠ 0 := h
 by_cases c0 : AM a.c = 0
 ·have e : GD a = bif okZ a then 0 else 2 := by unfold GD; rw [c0]; rfl
  have e2 : AS a = bif okZ a then bif (AZ (AB a)).2 then 0 else 6 else 2 := by unfold AS; rw [c0]; rfl
  have hl := DG c0
  have hn := (SB c0).1
  refine PJ (A := A_rd) (L := []) (keep := []) (ren := []) (fz := []) CKK (by kernel_rfl) (AD BUS (AD AGA (AD BRU AI))) ?_
  show DES a; rw [DLC]; delta ADR ABN BTB AHD ABA ADE BQR BYW ACK ABP BBT BDX BGF Gz Gt TE NA qC BFK Iz AVX Fg iV Ed lW Ip nN Je BBY Ig lT hZ MY ASV ATR AQJ ASX APN AMF BCM Dn El Ir UG iA AZS iU AQL AKP BEW AOP ARB ANQ AKB AZL AWJ BDZ AOE BDL AXC APB BEJ ASQ Hc mC APA AVN ALI Ez iS AUD kG BDU BGM AQF ANU ANH ATV AKV ATZ BFI AKW AQC APZ AWM ARZ AQK AXK BCI BGT BCH ATH AUB BHA; simp only [AU, eq_self, implies_true, and_self, true_and, and_true, true_implies, forall_const, decide_eq_true_eq, decide_eq_false_iff_not, Int.toNat_natCast, dSpan_eSpan, dInt_eInt, AY, AW, AX, Nat.zero_add, Int.zero_sub, Nat.le_eq, Nat.succ_eq_add_one, Nat.add_one_le_iff, Bool.not_eq_true', Bool.not_eq_false', rng_length, AK, AJ, BI, RO, WH, NE, QZ, e]
  rw [e2] at h2 ⊢
  refine ⟨⟨h1, c0⟩, ?_⟩
  cases ho : okZ a with
  | false => exact ⟨λ _ => rfl, λ h => by simp at h⟩
  | true =>
   rw [ho] at h2
   cases hq : (AZ (AB a)).2 with
   | false => exact ⟨λ h => by simp at h, λ _ => ⟨⟨by omega, by omega, hn⟩, λ _ => rfl, λ h => by cases h⟩⟩
   | true => rw [hq] at h2; exact absurd rfl h2
 ·have c0' : (AM a.c == 0) = false := by simpa using c0
  have e : GD a = AM a.c := by unfold GD; rw [c0']; rfl
  have e2 : AS a = AM a.c := by unfold AS; rw [c0']; rfl
  refine PJ (A := DMV) (L := []) (keep := []) (ren := []) (fz := []) CKK (by kernel_rfl) (AD CYJ AI) ?_
  show DGW a; rw [DJN]; simp only [AU, eq_self, implies_true, and_self, true_and, and_true, true_implies, forall_const, decide_eq_true_eq, decide_eq_false_iff_not, Int.toNat_natCast, dSpan_eSpan, dInt_eInt, AY, AW, AX, Nat.zero_add, Int.zero_sub, Nat.le_eq, Nat.succ_eq_add_one, Nat.add_one_le_iff, Bool.not_eq_true', Bool.not_eq_false', rng_length, AK, AJ, BI, NE, e, e2]
  simp [h1, c0]) _
def timR (a : CZ) : List Span × Int := bif AS a == 0 then ((AZ (AB a)).1, 0) else ([], AS a)
def C_Times : Ctr := { α := CZ, xs := xCZ, val := λ a => .tup [.d (AT (timR a).1), .int (timR a).2], keep := λ _ => [], pre := λ a => [a.c.ms.length < 4611686018427387904 /\ a.c.ns.length < 4611686018427387904 /\ a.z.length < 4611686018427387904] }
def DOB : Ann := ann 20 [(WL, C_rdO.spec dCZ)]
def DOX : Ann := ann 20 [(WL, C_rdX.spec dCZ)]
def DNV (a : CZ) : Prop := BA Try.prog DOB AIR (AL AIR) (xCZ a) (AG []) (.tup [.d (AT (AZ (AB a)).1), .int 0]) [] [] []
theorem DQZ (a : CZ) : (DNV a) = ((a.c.p.lo = a.c.p.lo /\ a.c.p.hi = a.c.p.hi /\ a.c.base = a.c.base /\ a.c.scale = a.c.scale /\ a.c.off = a.c.off /\ (AF a.c.ms.length λ (i : Nat) => gD a.c.ms i).length =
 a.c.ms.length /\ (∀ (i : Nat), i < (AF a.c.ms.length λ (i : Nat) => gD a.c.ms i).length -> (gD (AF a.c.ms.length λ (i : Nat) => gD a.c.ms i) i).pl = (gD a.c.ms i).pl /\ (gD (AF a.c.ms.length λ (i : Nat) => gD
 a.c.ms i) i).ht = (gD a.c.ms i).ht) /\ (AF a.c.ns.length λ (i : Nat) => gD a.c.ns i).length = a.c.ns.length /\ (∀ (i : Nat), i < (AF a.c.ns.length λ (i : Nat) => gD a.c.ns i).length -> (gD (AF a.c.ns.length λ (i :
 Nat) => gD a.c.ns i) i).mi = (gD a.c.ns i).mi /\ (gD (AF a.c.ns.length λ (i : Nat) => gD a.c.ns i) i).t.lo = (gD a.c.ns i).t.lo /\ (gD (AF a.c.ns.length λ (i : Nat) => gD a.c.ns i) i).t.hi = (gD a.c.ns i).t.hi /\ (gD
 (AF a.c.ns.length λ (i : Nat) => gD a.c.ns i) i).s.lo = (gD a.c.ns i).s.lo /\ (gD (AF a.c.ns.length λ (i : Nat) => gD a.c.ns i) i).s.hi = (gD a.c.ns i).s.hi) /\ (AF a.z.length λ (i : Nat) => gD a.z i).length =
 a.z.length /\ (∀ (i : Nat), i < (AF a.z.length λ (i : Nat) => gD a.z i).length -> gD (AF a.z.length λ (i : Nat) => gD a.z i) i = gD a.z i) /\ ((AF a.c.ms.length λ (i : Nat) => gD a.c.ms i).length <
 (4611686018427387904 : Nat) /\ (AF a.c.ns.length λ (i : Nat) => gD a.c.ns i).length < (4611686018427387904 : Nat) /\ (AF a.z.length λ (i : Nat) => gD a.z i).length < (4611686018427387904 : Nat)) /\ AS (CZ.mk
 (Cht.mk a.c.p a.c.base a.c.scale a.c.off (AF a.c.ms.length λ (i : Nat) => gD a.c.ms i) (AF a.c.ns.length λ (i : Nat) => gD a.c.ns i)) (AF a.z.length λ (i : Nat) => gD a.z i)) = (0 : Int)) /\ (AZ (AB
 a)).fst.length = (AZ (AB (CZ.mk (Cht.mk a.c.p a.c.base a.c.scale a.c.off (AF a.c.ms.length λ (i : Nat) => gD a.c.ms i) (AF a.c.ns.length λ (i : Nat) => gD a.c.ns i)) (AF a.z.length λ (i : Nat) => gD a.z
 i)))).fst.length /\ (∀ (i : Nat), i < (AZ (AB a)).fst.length -> (gD (AZ (AB a)).fst i).lo = (gD (AZ (AB (CZ.mk (Cht.mk a.c.p a.c.base a.c.scale a.c.off (AF a.c.ms.length λ (i : Nat) => gD a.c.ms i)
 (AF a.c.ns.length λ (i : Nat) => gD a.c.ns i)) (AF a.z.length λ (i : Nat) => gD a.z i)))).fst i).lo /\ (gD (AZ (AB a)).fst i).hi = (gD (AZ (AB (CZ.mk (Cht.mk a.c.p a.c.base a.c.scale a.c.off (AF
 a.c.ms.length λ (i : Nat) => gD a.c.ms i) (AF a.c.ns.length λ (i : Nat) => gD a.c.ns i)) (AF a.z.length λ (i : Nat) => gD a.z i)))).fst i).hi) /\ Int.ofNat (0 : Nat) = Int.ofNat (0 : Nat)) := by kernel_rfl
def DNW (a : CZ) : Prop := BA Try.prog DOX AIR (AL AIR) (xCZ a) (AG []) (.tup [.d (AT nilS), .int (AS a)]) [] [] []
theorem DQP (a : CZ) : (DNW a) = ((a.c.p.lo = a.c.p.lo /\ a.c.p.hi = a.c.p.hi /\ a.c.base = a.c.base /\ a.c.scale = a.c.scale /\ a.c.off = a.c.off /\ (AF a.c.ms.length λ (i : Nat) => gD a.c.ms i).length =
 a.c.ms.length /\ (∀ (i : Nat), i < (AF a.c.ms.length λ (i : Nat) => gD a.c.ms i).length -> (gD (AF a.c.ms.length λ (i : Nat) => gD a.c.ms i) i).pl = (gD a.c.ms i).pl /\ (gD (AF a.c.ms.length λ (i : Nat) => gD
 a.c.ms i) i).ht = (gD a.c.ms i).ht) /\ (AF a.c.ns.length λ (i : Nat) => gD a.c.ns i).length = a.c.ns.length /\ (∀ (i : Nat), i < (AF a.c.ns.length λ (i : Nat) => gD a.c.ns i).length -> (gD (AF a.c.ns.length λ (i :
 Nat) => gD a.c.ns i) i).mi = (gD a.c.ns i).mi /\ (gD (AF a.c.ns.length λ (i : Nat) => gD a.c.ns i) i).t.lo = (gD a.c.ns i).t.lo /\ (gD (AF a.c.ns.length λ (i : Nat) => gD a.c.ns i) i).t.hi = (gD a.c.ns i).t.hi /\ (gD
 (AF a.c.ns.length λ (i : Nat) => gD a.c.ns i) i).s.lo = (gD a.c.ns i).s.lo /\ (gD (AF a.c.ns.length λ (i : Nat) => gD a.c.ns i) i).s.hi = (gD a.c.ns i).s.hi) /\ (AF a.z.length λ (i : Nat) => gD a.z i).length =
 a.z.length /\ (∀ (i : Nat), i < (AF a.z.length λ (i : Nat) => gD a.z i).length -> gD (AF a.z.length λ (i : Nat) => gD a.z i) i = gD a.z i) /\ ((AF a.c.ms.length λ (i : Nat) => gD a.c.ms i).length <
 4611686018427387904 /\ (AF a.c.ns.length λ (i : Nat) => gD a.c.ns i).length < 4611686018427387904 /\ (AF a.z.length λ (i : Nat) => gD a.z i).length < 4611686018427387904) /\ AS (CZ.mk (Cht.mk a.c.p a.c.base
 a.c.scale a.c.off (AF a.c.ms.length λ (i : Nat) => gD a.c.ms i) (AF a.c.ns.length λ (i : Nat) => gD a.c.ns i)) (AF a.z.length λ (i : Nat) => gD a.z i)) ≠ 0) /\ 0 = 0 /\ 0 = 0 /\ AS a = AS (CZ.mk (Cht.mk a.c.p
 a.c.base a.c.scale a.c.off (AF a.c.ms.length λ (i : Nat) => gD a.c.ms i) (AF a.c.ns.length λ (i : Nat) => gD a.c.ns i)) (AF a.z.length λ (i : Nat) => gD a.z i))) := by kernel_rfl
theorem CQH : AN Try.prog BKT (C_Times.spec dCZ) := okT C_Times (λ (a : CZ) h => by
 have h1 : a.c.ms.length < 4611686018427387904 /\ a.c.ns.length < 4611686018427387904 /\ a.z.length < 4611686018427387904 := h
 by_cases c0 : AS a = 0
 ·have e : C_Times.val a = .tup [.d (AT (AZ (AB a)).1), .int 0] := by
   show AVal.tup [.d (AT (timR a).1), .int (timR a).2] = _
   unfold timR; rw [c0]; rfl
  rw [e]
  refine PJ (A := DOB) (L := []) (keep := []) (ren := []) (fz := []) CRA (by kernel_rfl) (AD CMO AI) ?_
  show DNV a; rw [DQZ]; simp only [AU, eq_self, implies_true, and_self, true_and, and_true, true_implies, forall_const, decide_eq_true_eq, decide_eq_false_iff_not, Int.toNat_natCast, dSpan_eSpan, dInt_eInt, AY, AW, AX, Nat.zero_add, Int.zero_sub, Nat.le_eq, Nat.succ_eq_add_one, Nat.add_one_le_iff, Bool.not_eq_true', Bool.not_eq_false', rng_length, AK, AJ, BI, NE]
  simp [h1, c0]
 ·have c0' : (AS a == 0) = false := by simpa using c0
  have e : C_Times.val a = .tup [.d (AT nilS), .int (AS a)] := by
   show AVal.tup [.d (AT (timR a).1), .int (timR a).2] = _
   unfold timR; rw [c0']; rfl
  rw [e]
  refine PJ (A := DOX) (L := []) (keep := []) (ren := []) (fz := []) CRA (by kernel_rfl) (AD CJW AI) ?_
  show DNW a; rw [DQP]; simp only [AU, eq_self, implies_true, and_self, true_and, and_true, true_implies, forall_const, decide_eq_true_eq, decide_eq_false_iff_not, Int.toNat_natCast, dSpan_eSpan, dInt_eInt, AY, AW, AX, Nat.zero_add, Int.zero_sub, Nat.le_eq, Nat.succ_eq_add_one, Nat.add_one_le_iff, Bool.not_eq_true', Bool.not_eq_false', rng_length, AK, AJ, BI, NE]
  simp [h1, c0, nilS]) _
end Go.Bal
