/- Package chart: times as a row of one's own. -/
import Derived.Test.YtdbjalgfomknhaaChM
set_option linter.unusedVariables false
set_option linter.unusedSimpArgs false
namespace Go.Bal
open Go Go.Sym Go.Proofs
def C_narO : Ctr := { ro := [100, 101], α := DkS, xs := λ a => [.bptr 100 0, .d (AT a.l)], L := λ a => dkL a.w, val := λ a => .tup [.own 0 2 0 (CR a.w a.l).length, .bool ((CR a.w a.l).all DZ)], keep := λ a => dkK a.w ++ [(0, .live (rowS (CR a.w a.l)))], pre := λ a => [a.l.length = a.w.c.ms.length /\ 1 <= a.w.c.ms.length /\ a.w.c.ms.length <= 40] }
def DFQ (a : DkS) : Prop := BA Try.prog (CYS a) XU (AL XU) (C_narO.xs a) (AG (C_narO.L a)) (C_narO.val a) (C_narO.keep a) [(0, 2016)] []
abbrev CCL (a : DkS) : List Span := AF a.l.length λ (i : Nat) => gD a.l i
abbrev He (a : DkS) : Nat := (CCL a).length
abbrev BPU (a : DkS) (i : Nat) : Span := gD (CCL a) i
abbrev BRN (a : DkS) (i : Nat) : Int := (BPU a i).lo
abbrev BMZ (a : DkS) (i : Nat) : Int := (BPU a i).hi
abbrev EO (a : DkS) : Prop := a.w.c.p.lo = a.w.c.p.lo
abbrev EP (a : DkS) : Prop := a.w.c.p.hi = a.w.c.p.hi
abbrev EM (a : DkS) : Prop := a.w.c.base = a.w.c.base
abbrev EQ (a : DkS) : Prop := a.w.c.scale = a.w.c.scale
abbrev ES (a : DkS) : Prop := a.w.c.off = a.w.c.off
abbrev ASB (a : DkS) : List Mk := AF a.w.c.ms.length λ (i : Nat) => gD a.w.c.ms i
abbrev lG (a : DkS) : Nat := (ASB a).length
abbrev AMJ (a : DkS) (i : Nat) : Mk := gD (ASB a) i
abbrev BCD (a : DkS) (i : Nat) : Int := (AMJ a i).pl
abbrev AOW (a : DkS) (i : Nat) : Int := (AMJ a i).ht
abbrev Gm (a : DkS) : List Nt := AF a.w.c.ns.length λ (i : Nat) => gD a.w.c.ns i
abbrev lV (a : DkS) : Nat := (Gm a).length
abbrev qF (a : DkS) (i : Nat) : Nt := gD (Gm a) i
abbrev AMO (a : DkS) (i : Nat) : Int := (qF a i).mi
abbrev APX (a : DkS) (i : Nat) : Span := (qF a i).t
abbrev BCJ (a : DkS) (i : Nat) : Int := (APX a i).lo
abbrev Gn (a : DkS) (i : Nat) : Int := (gD a.w.c.ns i).t.lo
abbrev AZT (a : DkS) (i : Nat) : Int := (APX a i).hi
abbrev Jd (a : DkS) (i : Nat) : Int := (gD a.w.c.ns i).t.hi
abbrev ALY (a : DkS) (i : Nat) : Span := (qF a i).s
abbrev BAO (a : DkS) (i : Nat) : Int := (ALY a i).lo
abbrev Eh (a : DkS) (i : Nat) : Int := (gD a.w.c.ns i).s.lo
abbrev APG (a : DkS) (i : Nat) : Int := (ALY a i).hi
abbrev Ih (a : DkS) (i : Nat) : Int := (gD a.w.c.ns i).s.hi
abbrev DB (a : DkS) : Prop := ∀ (i : Nat), i < (40 : Nat) -> a.w.sp i = a.w.sp i
abbrev ANM (a : DkS) (n : Int) : Bool := hasN (Gm a) n
abbrev CY (a : DkS) : Prop := ∀ (n : Int), a.w.st n = a.w.st n
abbrev iL (a : DkS) (n : Int) : Nt := ntOf (Gm a) n
abbrev AXT (a : DkS) (n : Int) : Int := (iL a n).mi
abbrev BAT (a : DkS) (n : Int) : Span := (iL a n).t
abbrev AWZ (a : DkS) (n : Int) : Int := (BAT a n).lo
abbrev BEX (a : DkS) (n : Int) : Int := (BAT a n).hi
abbrev AXD (a : DkS) (n : Int) : Span := (iL a n).s
abbrev BDH (a : DkS) (n : Int) : Int := (AXD a n).lo
abbrev AMI (a : DkS) (n : Int) : Int := (AXD a n).hi
abbrev BFC (i : Nat) (a : DkS) : Prop := i < a.w.c.ms.length
abbrev AVH (i : Nat) (a : DkS) : Prop := i < a.w.c.ns.length
abbrev BBS (a : DkS) : Int := (↑a.w.c.ms.length : Int) - (1 : Int)
abbrev TF (a : DkS) : Int := wr (BBS a)
abbrev EB (a : DkS) : Prop := a.w.c.ms.length = a.w.c.ms.length
abbrev EF (a : DkS) : Prop := ∀ (i : Nat), BFC i a -> (gD a.w.c.ms i).pl = (gD a.w.c.ms i).pl /\ (gD a.w.c.ms i).ht = (gD a.w.c.ms i).ht
abbrev EI (a : DkS) : Prop := a.w.c.ns.length = a.w.c.ns.length
abbrev EC (a : DkS) : Prop := ∀ (i : Nat), AVH i a -> (gD a.w.c.ns i).mi = (gD a.w.c.ns i).mi /\ Gn a i = Gn a i /\ Jd a i = Jd a i /\ Eh a i = Eh a i /\ Ih a i =
 Ih a i
abbrev EG (a : DkS) : Prop := ∀ (n : Int), hasN a.w.c.ns n = hasN a.w.c.ns n
abbrev EH (a : DkS) : Prop := ∀ (n : Int), (ntOf a.w.c.ns n).mi = (ntOf a.w.c.ns n).mi /\ (ntOf a.w.c.ns n).t.lo = (ntOf a.w.c.ns n).t.lo /\ (ntOf a.w.c.ns n).t.hi = (ntOf a.w.c.ns n).t.hi /\ (ntOf a.w.c.ns n).s.lo =
 (ntOf a.w.c.ns n).s.lo /\ (ntOf a.w.c.ns n).s.hi = (ntOf a.w.c.ns n).s.hi
abbrev AVF (a : DkS) : Prop := a.l.length = He a
abbrev BW : Prop := (0 : Nat) = (0 : Nat)
abbrev z_narO_52 : Int := IntKind.i64.wrap ((↑(0 : Nat) : Int) + (1 : Int))
abbrev ARQ : Prop := (0 : Int) <= (↑(0 : Nat) : Int)
abbrev nD : Prop := (0 : Nat) < (1 : Nat)
abbrev ATN : Prop := (2 : Nat) = (2 : Nat)
abbrev BGY : Prop := (1 : Nat) <= (1 : Nat) /\ (nD -> ATN)
abbrev ARO : Prop := (True /\ ((0 : Nat) < (0 : Nat) -> (0 : Nat) = (2 : Nat))) /\ BGY /\ (true = true -> nD) /\ (1 : Nat) <= (9223372036854775807 : Nat) /\ (16 : Nat) <= (140737488355328 : Nat)
abbrev Iy (a : DkS) : Prop := TF a = TF a
abbrev AML (a : Nat) : Prop := (↑a : Int) = z_narO_52
abbrev CN (a : DkS) : Prop := a.l.length = a.l.length
abbrev LM (a : DkS) : Prop := ∀ (i : Nat), i < a.l.length -> (gD a.l i).lo = (gD a.l i).lo /\ (gD a.l i).hi = (gD a.l i).hi
abbrev BAM (a : DkS) : Int := IntKind.i64.wrap ((gD a.w.c.ms z_narO_52.toNat).pl - (gD a.w.c.ms (0 : Nat)).pl)
abbrev AKH (a : DkS) (i : Nat) : Prop := (BM a.w i).lo = IntKind.i64.wrap (a.w.c.p.lo * BAM a)
abbrev AWN (a : DkS) : Nat := a.w.c.ms.length - (1 : Nat)
abbrev kR (a : Nat) (a1 : DkS) : Prop := (1 : Nat) <= a /\ a <= AWN a1
abbrev jK (a : Nat) : Nat := (50 : Nat) - a
abbrev ASH (a : Nat) (a1 : DkS) : Prop := kR a a1 /\ jK a < (60 : Nat)
abbrev AVU (a : DkS) : Prop := (EL a.w).length = (0 : Nat)
abbrev JQ (a : Nat) : Int := IntKind.i64.wrap ((↑a : Int) + (1 : Int))
abbrev APP (a : Nat) : Prop := (0 : Int) <= JQ a
abbrev Hb (a : Nat) : Prop := (0 : Int) <= (↑a : Int)
abbrev qK (a : Nat) : Nat := a + (1 : Nat)
abbrev AKY (a : Nat) : Prop := (a = a /\ ((0 : Nat) < a -> ATN)) /\ BGY /\ (false = true -> nD) /\ qK a <= (9223372036854775807 : Nat) /\ qK a * (16 : Nat) <= (140737488355328 : Nat)
abbrev qO (a : Nat) (a1 : Nat) : Prop := (↑a : Int) = JQ a1
abbrev Dv (a : Nat) (a1 : Nat) : Prop := a = qK a1
abbrev BCS (a : DkS) (a1 : Nat) : Int := IntKind.i64.wrap ((gD a.w.c.ms (JQ a1).toNat).pl - (gD a.w.c.ms a1).pl)
abbrev BES (a : DkS) (i : Nat) (a1 : Nat) : Prop := (BM a.w i).lo = bif decide (i < a1) then (BM a.w i).lo else IntKind.i64.wrap (a.w.c.p.lo * BCS a a1)
abbrev AMM (a : Nat) (a1 : Nat) : Prop := jK a < jK a1
abbrev APL (a : Nat) (a1 : DkS) (a2 : Nat) : Prop := kR a a1 /\ AMM a a2
abbrev Gr (a : Nat) : Nat := (0 : Nat) + a
abbrev AWF (a : DkS) (j : Nat) : Span := BM a.w (Gr j)
abbrev hY (a : DkS) : Prop := (EL a.w).length = (EL a.w).length
abbrev oC (a : DkS) : Prop := ∀ (i : Nat), i < (EL a.w).length -> (gD (EL a.w) i).lo = (gD (EL a.w) i).lo /\ (gD (EL a.w) i).hi = (gD (EL a.w) i).hi
abbrev UY (a : DkS) : Prop := BW /\ CN a /\ hY a /\ oC a
abbrev BFB (a : DkS) : Prop := (↑(EL a.w).length : Int) = (↑(EL a.w).length : Int)
abbrev TN (a : Nat) (a1 : DkS) : Prop := a.le (AWN a1)
abbrev AQT (a : Nat) (a1 : DkS) : Prop := (↑a : Int) < (↑(EL a1.w).length : Int)
abbrev ATF (a : Nat) (a1 : DkS) : Prop := Hb a /\ (↑a : Int) < (↑a1.l.length : Int)
abbrev APF (a : Nat) (a1 : DkS) : Prop := Gr a < a1.l.length
abbrev APS (a : DkS) (a1 : Nat) : Span := tS a a1 (Gr a1)
abbrev pV (a : DkS) (a1 : Nat) : Int := IntKind.i64.wrap ((APS a a1).lo + (gD (EL a.w) a1).lo)
abbrev gU (a : DkS) (a1 : Nat) : Int := IntKind.i64.wrap ((APS a a1).hi + (gD (EL a.w) a1).hi)
abbrev lK (a : DkS) (a1 : Nat) : List Span := AF a.l.length λ (i : Nat) => tS a a1 i
abbrev Dj (a : DkS) (a1 : Nat) : Nat := (lK a a1).length
abbrev ARN (a : DkS) (a1 : Nat) : Prop := Dj a a1 = a.l.length
abbrev AQD (a : DkS) (a1 : Nat) (i : Nat) : Span := gD (lK a a1) i
abbrev BCT (a : DkS) (a1 : Nat) : Prop := a.l.length = Dj a a1
abbrev AWQ (a : DkS) (a1 : Nat) (i : Nat) : Span := upd1 (lK a a1) (JQ a1) (Span.mk (pV a a1) (gU a a1)) i
abbrev AYW (a : Nat) (a1 : DkS) (a2 : Nat) : Prop := TN a a1 /\ AMM a a2
abbrev DH (a : DkS) (a1 : Nat) : Int := (↑a.w.c.ms.length : Int) - (2 : Int) - (↑a1 : Int)
abbrev Jg (a : DkS) (a1 : Nat) : Int := IntKind.i64.wrap (DH a a1 + (1 : Int))
abbrev vG (a : DkS) (a1 : Nat) : Prop := (0 : Int) <= Jg a a1 /\ Jg a a1 < (↑a.l.length : Int)
abbrev K6 (a : DkS) (a1 : Nat) : Nat := (0 : Nat) + (Jg a a1).toNat
abbrev vO (a : DkS) (a1 : Nat) : Prop := K6 a a1 < a.l.length
abbrev uH (a : DkS) (a1 : Nat) : Prop := (0 : Int) <= DH a a1
abbrev H7 (a : DkS) (a1 : Nat) : Prop := uH a a1 /\ DH a a1 < (↑(EL a.w).length : Int)
abbrev tX (a : DkS) (a1 : Nat) : Span := Qm a a1 (K6 a a1)
abbrev W3 (a : DkS) (a1 : Nat) : Span := gD (EL a.w) (DH a a1).toNat
abbrev Lx (a : DkS) (a1 : Nat) : Int := IntKind.i64.wrap ((tX a a1).lo - (W3 a a1).hi)
abbrev Oc (a : DkS) (a1 : Nat) : Int := IntKind.i64.wrap ((tX a a1).hi - (W3 a a1).lo)
abbrev YU (a : DkS) (a1 : Nat) : List Span := AF a.l.length λ (i : Nat) => Qm a a1 i
abbrev MU (a : DkS) (a1 : Nat) : Nat := (YU a a1).length
abbrev VV (a : DkS) (a1 : Nat) : Prop := MU a a1 = a.l.length
abbrev wO (a : DkS) (a1 : Nat) (i : Nat) : Span := gD (YU a a1) i
abbrev zT (a : DkS) (a1 : Nat) (i : Nat) : Int := (wO a a1 i).lo
abbrev vS (a : DkS) (a1 : Nat) (i : Nat) : Int := (wO a a1 i).hi
abbrev uY (a : DkS) (a1 : Nat) : Prop := ∀ (i : Nat), i < MU a a1 -> zT a a1 i = (Qm a a1 i).lo /\ vS a a1 i = (Qm a a1 i).hi
abbrev Pi (a : DkS) (a1 : Nat) : Prop := a.l.length = MU a a1
abbrev U4 (a : DkS) (a1 : Nat) (i : Nat) : Span := upd1 (YU a a1) (DH a a1) (Span.mk (Lx a a1) (Oc a a1)) i
abbrev tD (a : DkS) : Prop := (CR a.w a.l).length = a.l.length
abbrev O5 (a : DkS) : Prop := ∀ (a_1 : One), True -> (∃ (a_3 : One), (EO a /\ EP a /\ EM a /\ EQ a /\ ES a /\ EB a /\ EF a /\ EI a /\ EC a /\ DB a /\ AO =
 AO /\ EG a /\ CY a /\ EH a /\ CN a /\ LM a /\ UY a) /\ True) /\ ∀ (a_3 : One), True -> (∃ (a_5 : Nat), (hY a /\ oC a /\ BFB a /\ (↑a_5 : Int) = (0 : Int) /\ EO a /\
 EP a /\ EM a /\ EQ a /\ ES a /\ EB a /\ EF a /\ EI a /\ EC a /\ DB a /\ AO = AO /\ EG a /\ CY a /\ EH a /\ CN a /\ (∀ (i : Nat), i < a.l.length ->
 (tS a a_5 i).lo = (gD a.l i).lo /\ (tS a a_5 i).hi = (gD a.l i).hi) /\ UY a) /\ TN a_5 a) /\ ∀ (a_5 : Nat), TN a_5 a -> bif decide (AQT a_5 a) then (Hb a_5 /\ AQT a_5 a) /\ (ATF
 a_5 a /\ APF a_5 a /\ ATF a_5 a /\ APF a_5 a /\ JQ a_5 = JQ a_5 /\ pV a a_5 = pV a a_5 /\ gU a a_5 = gU a a_5 /\ BW /\ ARN a a_5 /\ ARN a a_5 /\ (∀ (i
 : Nat), i < Dj a a_5 -> (AQD a a_5 i).lo = (tS a a_5 i).lo /\ (AQD a a_5 i).hi = (tS a a_5 i).hi) /\ BW /\ BCT a a_5 /\ APP a_5 /\ JQ a_5 < (↑(Dj a a_5) : Int)) /\ ∃ (a_7 :
 Nat), (hY a /\ oC a /\ BFB a /\ qO a_7 a_5 /\ EO a /\ EP a /\ EM a /\ EQ a /\ ES a /\ EB a /\ EF a /\ EI a /\ EC a /\ DB a /\ AO = AO /\
 EG a /\ CY a /\ EH a /\ BCT a a_5 /\ (∀ (i : Nat), i < a.l.length -> (tS a a_7 i).lo = (AWQ a a_5 i).lo /\ (tS a a_7 i).hi = (AWQ a a_5 i).hi) /\ UY a) /\ AYW a_7 a a_5 else
 (∃ (a_7 : Nat), (DH a a_7 = IntKind.i64.wrap ((↑(EL a.w).length : Int) - (1 : Int)) /\ EO a /\ EP a /\ EM a /\ EQ a /\ ES a /\ EB a /\ EF a /\ EI a /\ EC a /\
 DB a /\ AO = AO /\ EG a /\ CY a /\ EH a /\ CN a /\ (∀ (i : Nat), i < a.l.length -> (Qm a a_7 i).lo = (tS a a_5 i).lo /\ (Qm a a_7 i).hi = (tS a a_5 i).hi) /\ UY a) /\ TN a_7
 a) /\ ∀ (a_7 : Nat), TN a_7 a -> bif decide (DH a a_7 >= (0 : Int)) then (vG a a_7 /\ vO a a_7 /\ H7 a a_7 /\ vG a a_7 /\ vO a a_7 /\ H7 a a_7 /\ DH a a_7 =
 DH a a_7 /\ Lx a a_7 = Lx a a_7 /\ Oc a a_7 = Oc a a_7 /\ BW /\ VV a a_7 /\ VV a a_7 /\ uY a a_7 /\ BW /\ Pi a a_7 /\ uH a a_7 /\
 DH a a_7 < (↑(MU a a_7) : Int)) /\ ∃ (a_9 : Nat), (DH a a_9 = IntKind.i64.wrap (DH a a_7 - (1 : Int)) /\ EO a /\ EP a /\ EM a /\ EQ a /\ ES a /\ EB a /\
 EF a /\ EI a /\ EC a /\ DB a /\ AO = AO /\ EG a /\ CY a /\ EH a /\ Pi a a_7 /\ (∀ (i : Nat), i < a.l.length -> (Qm a a_9 i).lo = (U4 a a_7 i).lo /\ (Qm a a_9
 i).hi = (U4 a a_7 i).hi) /\ UY a) /\ AYW a_9 a a_7 else (BW /\ VV a a_7 /\ VV a a_7 /\ uY a a_7 /\ Pi a a_7 /\ (∀ (i : Nat), i < a.l.length -> (Qm a a_7 i).lo =
 zT a a_7 i /\ (Qm a a_7 i).hi = vS a a_7 i) /\ MU a a_7 < (4611686018427387904 : Nat) /\ True) /\ BW /\ tD a /\ (CR a.w a.l).all DZ = (YU a a_7).all DZ /\ EO a /\
 EP a /\ EM a /\ EQ a /\ ES a /\ EB a /\ EF a /\ EI a /\ EC a /\ DB a /\ AO = AO /\ EG a /\ CY a /\ EH a /\ tD a /\ ∀ (i : Nat), i < (CR a.w
 a.l).length -> (gD (CR a.w a.l) i).lo = (Qm a a_7 i).lo /\ (gD (CR a.w a.l) i).hi = (Qm a a_7 i).hi
theorem DJM (a : DkS) : (DFQ a) = ((He a = a.l.length /\ (∀ (i : Nat), i < He a -> BRN a i = (gD a.l i).lo /\ BMZ a i = (gD a.l i).hi) /\ (0 : Nat) < He a /\ He a < (1073741824 : Nat))
 /\ ((EO a /\ EP a /\ EM a /\ EQ a /\ ES a /\ lG a = a.w.c.ms.length /\ (∀ (i : Nat), i < lG a -> BCD a i = (gD a.w.c.ms i).pl /\ AOW a i = (gD a.w.c.ms i).ht) /\ lV a
 = a.w.c.ns.length /\ (∀ (i : Nat), i < lV a -> AMO a i = (gD a.w.c.ns i).mi /\ BCJ a i = Gn a i /\ AZT a i = Jd a i /\ BAO a i = Eh a i /\ APG a i = Ih a i) /\
 DB a /\ AO = AO /\ (∀ (n : Int), ANM a n = hasN a.w.c.ns n) /\ CY a /\ (∀ (n : Int), AXT a n = (ntOf a.w.c.ns n).mi /\ AWZ a n = (ntOf a.w.c.ns n).t.lo /\ BEX a n = (ntOf a.w.c.ns
 n).t.hi /\ BDH a n = (ntOf a.w.c.ns n).s.lo /\ AMI a n = (ntOf a.w.c.ns n).s.hi) /\ EO a /\ EP a /\ EM a /\ EQ a /\ ES a /\ a.w.c.ms.length = lG a /\ (∀ (i : Nat), BFC i a ->
 (gD a.w.c.ms i).pl = BCD a i /\ (gD a.w.c.ms i).ht = AOW a i) /\ a.w.c.ns.length = lV a /\ (∀ (i : Nat), AVH i a -> (gD a.w.c.ns i).mi = AMO a i /\ Gn a i = BCJ a i /\ Jd a i
 = AZT a i /\ Eh a i = BAO a i /\ Ih a i = APG a i) /\ DB a /\ AO = AO /\ (∀ (n : Int), hasN a.w.c.ns n = ANM a n) /\ CY a /\ ∀ (n : Int), (ntOf a.w.c.ns n).mi = AXT a
 n /\ (ntOf a.w.c.ns n).t.lo = AWZ a n /\ (ntOf a.w.c.ns n).t.hi = BEX a n /\ (ntOf a.w.c.ns n).s.lo = BDH a n /\ (ntOf a.w.c.ns n).s.hi = AMI a n) /\ ∀ (l : Nat), (∃ (a_1 : One), (Fn.yield l = Fn.yield
 l /\ TF a = IntKind.i64.wrap (BBS a) /\ Int.ofNat (0 : Nat) = Int.ofNat (0 : Nat) /\ EO a /\ EP a /\ EM a /\ EQ a /\ ES a /\ EB a /\ EF a /\ EI a /\ EC a /\
 DB a /\ AO = AO /\ EG a /\ CY a /\ EH a /\ AVF a /\ (∀ (i : Nat), i < a.l.length -> (gD a.l i).lo = BRN a i /\ (gD a.l i).hi = BMZ a i) /\ BW /\ AVF a /\ BW /\ ∀ (i :
 Nat), i < (0 : Nat) -> false = false) /\ True) /\ (∀ (a_1 : One), True -> bif decide ((↑(0 : Nat) : Int) < TF a) then (((0 : Int) <= z_narO_52 /\ z_narO_52 < (↑a.w.c.ms.length : Int)) /\ ARQ /\ (↑(0 : Nat) : Int) <
 (↑a.w.c.ms.length : Int)) /\ (ARQ /\ (↑(0 : Nat) : Int) < (↑(40 : Nat) : Int)) /\ (Nat.succ (0 : Nat)).le (40 : Nat) /\ bif a.w.sp (0 : Nat) then l = l /\ ARO /\ ∃ (a_3 : Nat), (Fn.yield l = Fn.yield l /\ Iy
 a /\ AML a_3 /\ EO a /\ EP a /\ EM a /\ EQ a /\ ES a /\ EB a /\ EF a /\ EI a /\ EC a /\ DB a /\ AO = AO /\ EG a /\ CY a /\ EH a /\ CN a
 /\ LM a /\ BW /\ CN a /\ BW /\ a_3 = (1 : Nat) /\ a_3 = (1 : Nat) /\ ∀ (i : Nat), i < a_3 -> AKH a i /\ (BM a.w i).hi = (200000000 : Int)) /\ ASH a_3 a else l = l /\ ARO /\ ∃ (a_3 :
 Nat), (Fn.yield l = Fn.yield l /\ Iy a /\ AML a_3 /\ EO a /\ EP a /\ EM a /\ EQ a /\ ES a /\ EB a /\ EF a /\ EI a /\ EC a /\ DB a /\ AO = AO /\ EG
 a /\ CY a /\ EH a /\ CN a /\ LM a /\ BW /\ CN a /\ BW /\ a_3 = (1 : Nat) /\ a_3 = (1 : Nat) /\ ∀ (i : Nat), i < a_3 -> AKH a i /\ (BM a.w i).hi = IntKind.i64.wrap (a.w.c.p.hi
 * BAM a)) /\ ASH a_3 a else ∃ (a_3 : One), (EO a /\ EP a /\ EM a /\ EQ a /\ ES a /\ EB a /\ EF a /\ EI a /\ EC a /\ DB a /\ AO = AO /\ EG a /\
 CY a /\ EH a /\ CN a /\ LM a /\ BW /\ CN a /\ AVU a /\ AVU a) /\ True) /\ ∀ (a_1 : Nat), kR a_1 a -> bif decide ((↑a_1 : Int) < TF a) then ((APP a_1 /\
 JQ a_1 < (↑a.w.c.ms.length : Int)) /\ Hb a_1 /\ (↑a_1 : Int) < (↑a.w.c.ms.length : Int)) /\ (Hb a_1 /\ (↑a_1 : Int) < (↑(40 : Nat) : Int)) /\ a_1.succ.le (40 : Nat) /\ bif a.w.sp a_1 then l = l /\ AKY
 a_1 /\ ∃ (a_3 : Nat), (Fn.yield l = Fn.yield l /\ Iy a /\ qO a_3 a_1 /\ EO a /\ EP a /\ EM a /\ EQ a /\ ES a /\ EB a /\ EF a /\ EI a /\ EC a /\ DB a /\ AO
 = AO /\ EG a /\ CY a /\ EH a /\ CN a /\ LM a /\ BW /\ CN a /\ BW /\ Dv a_3 a_1 /\ Dv a_3 a_1 /\ ∀ (i : Nat), i < a_3 -> BES a i a_1 /\ (BM a.w i).hi = bif
 decide (i < a_1) then (BM a.w i).hi else (200000000 : Int)) /\ APL a_3 a a_1 else l = l /\ AKY a_1 /\ ∃ (a_3 : Nat), (Fn.yield l = Fn.yield l /\ Iy a /\ qO a_3 a_1 /\ EO a /\ EP a /\
 EM a /\ EQ a /\ ES a /\ EB a /\ EF a /\ EI a /\ EC a /\ DB a /\ AO = AO /\ EG a /\ CY a /\ EH a /\ CN a /\ LM a /\ BW /\ CN a /\
 BW /\ Dv a_3 a_1 /\ Dv a_3 a_1 /\ ∀ (i : Nat), i < a_3 -> BES a i a_1 /\ (BM a.w i).hi = bif decide (i < a_1) then (BM a.w i).hi else IntKind.i64.wrap (a.w.c.p.hi * BCS a a_1)) /\ APL
 a_3 a a_1 else ∃ (a_3 : One), (EO a /\ EP a /\ EM a /\ EQ a /\ ES a /\ EB a /\ EF a /\ EI a /\ EC a /\ DB a /\ AO = AO /\ EG a /\ CY a /\ EH a /\
 CN a /\ LM a /\ BW /\ CN a /\ (EL a.w).length = a_1 /\ Gr a_1 <= a_1 /\ ∀ (j : Nat), j < (EL a.w).length -> (gD (EL a.w) j).lo = (AWF a j).lo /\ (gD (EL a.w) j).hi = (AWF a
 j).hi) /\ True) /\ O5 a /\ O5 a) := by kernel_rfl
theorem DPU (a : DkS) (h : a.l.length = a.w.c.ms.length /\ 1 <= a.w.c.ms.length /\ a.w.c.ms.length <= 40) : DFQ a := by
 obtain ⟨hl, h1, h2⟩ := h
 have e1 : wr ((a.w.c.ms.length : Int) - 1) = ((a.w.c.ms.length - 1 : Nat) : Int) := by unfold wr; rw [EN (by omega) (by omega)]; omega
 have e2 : IntKind.i64.wrap ((a.w.c.ms.length : Int) - 1) = ((a.w.c.ms.length - 1 : Nat) : Int) := e1
 have gl : (EL a.w).length = a.w.c.ms.length - 1 := rng_length _ _
 have gg : ∀ {j : Nat}, j < a.w.c.ms.length - 1 -> gD (EL a.w) j = BM a.w j := λ hj => BD _ _ _ hj
 have lo : ∀ k, (BM a.w k).lo = IntKind.i64.wrap (a.w.c.p.lo * IntKind.i64.wrap ((gD a.w.c.ms (k + 1)).pl - (gD a.w.c.ms k).pl)) := λ _ => rfl
 have hi1 : ∀ k, a.w.sp k = true -> (BM a.w k).hi = 200000000 := λ k h => by unfold BM; rw [h]; rfl
 have hi0 : ∀ k, a.w.sp k = false -> (BM a.w k).hi = IntKind.i64.wrap (a.w.c.p.hi * IntKind.i64.wrap ((gD a.w.c.ms (k + 1)).pl - (gD a.w.c.ms k).pl)) := λ k h => by unfold BM; rw [h]; rfl
 have ws : ∀ {k : Nat}, k < 40 -> IntKind.i64.wrap ((k : Int) + 1) = ((k + 1 : Nat) : Int) := λ h => FM (by omega)
 rw [DJM]; delta CCL He BPU BRN BMZ EO EP EM EQ ES ASB lG AMJ BCD AOW Gm lV qF AMO APX BCJ Gn AZT Jd ALY BAO Eh APG Ih DB ANM CY iL AXT BAT AWZ BEX AXD BDH AMI BFC AVH BBS TF EB EF EI EC EG EH AVF BW z_narO_52 ARQ nD ATN BGY ARO Iy AML CN LM BAM AKH AWN kR jK ASH AVU JQ APP Hb qK AKY qO Dv BCS BES AMM APL Gr AWF hY oC UY BFB TN AQT ATF APF APS pV gU lK Dj ARN AQD BCT AWQ AYW DH Jg vG K6 vO uH H7 tX W3 Lx Oc YU MU VV wO zT vS uY Pi U4 tD O5; simp only [AU, eq_self, implies_true, and_self, true_and, and_true, true_implies, forall_const, decide_eq_true_eq, decide_eq_false_iff_not, Int.toNat_natCast, dSpan_eSpan, dInt_eInt, AY, AW, AX, Nat.zero_add, Int.zero_sub, Nat.le_eq, Nat.succ_eq_add_one, Nat.add_one_le_iff, Bool.not_eq_true', Bool.not_eq_false', rng_length, AK, AJ]; simp only [e1, e2, gl, hl]
 refine ⟨by omega, ⟨⟨default, trivial⟩, ⟨λ h0 => ?_, λ h0 => ⟨default, by omega⟩⟩, λ k hk => ⟨λ hlt => ?_, λ hge => ⟨default, by omega, Nat.le_refl _, λ j hj => by rw [gg hj]; exact ⟨rfl, rfl⟩⟩⟩⟩, ⟨default, trivial⟩, ⟨0, ⟨rfl, λ i hi => ?_⟩, Nat.zero_le _⟩, λ k hk => ⟨λ hlt => ?_, λ hge => ⟨⟨0, ⟨?_, λ i hi => ?_⟩, Nat.zero_le _⟩, λ j hj => ⟨λ hlt => ?_, λ hlt => ?_⟩⟩⟩⟩
 ·simp only [ws (show (0 : Nat) < 40 by omega), Int.toNat_natCast]
  refine ⟨by omega, by omega, by omega, λ h => ⟨by simp, 1, ⟨rfl, rfl, rfl, λ i hi => ?_⟩, by omega, by omega⟩, λ h => ⟨by simp, 1, ⟨rfl, rfl, rfl, λ i hi => ?_⟩, by omega, by omega⟩⟩
  ·obtain rfl : i = 0 := by omega
   exact ⟨lo 0, hi1 0 h⟩
  ·obtain rfl : i = 0 := by omega
   exact ⟨lo 0, hi0 0 h⟩
 ·simp only [ws (show k < 40 by omega), Int.toNat_natCast]
  refine ⟨by omega, by omega, by omega, λ h => ⟨⟨by omega, (λ h => by cases h), by omega, by omega⟩, k + 1, ⟨rfl, rfl, rfl, λ i hi => ?_⟩, by omega, by omega⟩, λ h => ⟨⟨by omega, (λ h => by cases h), by omega, by omega⟩, k + 1, ⟨rfl, rfl, rfl, λ i hi => ?_⟩, by omega, by omega⟩⟩
  ·by_cases q : i < k
   ·simp only [q, decide_true, cond_true, and_self]
   ·obtain rfl : i = k := by omega
    simp only [q, decide_false, cond_false]
    exact ⟨lo i, hi1 i h⟩
  ·by_cases q : i < k
   ·simp only [q, decide_true, cond_true, and_self]
   ·obtain rfl : i = k := by omega
    simp only [q, decide_false, cond_false]
    exact ⟨lo i, hi0 i h⟩
 ·by_cases q : i = 0
  ·subst q; exact ⟨rfl, rfl⟩
  ·have : ¬ i <= 0 := by omega
   simp only [tS, this, decide_false, cond_false, and_self]
 ·simp only [ws (show k < 40 by omega)]
  refine ⟨by omega, ⟨by omega, by omega, by omega, by omega, λ i hi => by rw [BD _ _ _ hi]; exact ⟨rfl, rfl⟩, by omega, by omega⟩, k + 1, ⟨rfl, λ i hi => ?_⟩, by omega, by omega⟩
  have e := CRT a (k := k) (i := i) (by omega) (by omega)
  rw [gg (by omega), e, hl]; exact ⟨rfl, rfl⟩
 ·rw [EN (by omega) (by omega)]; omega
 ·obtain rfl : k = a.w.c.ms.length - 1 := by omega
  have q1 : decide (i <= a.w.c.ms.length - 1) = true := by rw [decide_eq_true_eq]; omega
  unfold Qm tS; rw [q1]
  by_cases q : a.w.c.ms.length - 1 - 0 <= i
  ·have q2 : a.w.c.ms.length - 1 - i = 0 := by omega
   have q3 : i = a.w.c.ms.length - 1 := by omega
   simp only [q, decide_true, cond_true, q2, bkM]; rw [<- q3]; exact ⟨rfl, rfl⟩
  ·simp only [q, decide_false, cond_false, cond_true, and_self]
 ·have g0 : (a.w.c.ms.length : Int) - 2 - j = ((a.w.c.ms.length - 2 - j : Nat) : Int) := by omega
  have g1 : IntKind.i64.wrap (((a.w.c.ms.length - 2 - j : Nat) : Int) + 1) = ((a.w.c.ms.length - 2 - j + 1 : Nat) : Int) := ws (by omega)
  simp only [g0, g1, Int.toNat_natCast]
  refine ⟨⟨by omega, by omega, by omega, by omega, by omega, by omega, λ i hi => by rw [BD _ _ _ hi]; exact ⟨rfl, rfl⟩, by omega, by omega⟩, j + 1, ⟨?_, λ i hi => ?_⟩, by omega, by omega⟩
  ·rw [EN (by omega) (by omega)]; omega
  ·have e := CQP a (j := j) (i := i) hl (by omega) (by omega)
   rw [gg (by omega), e, hl]; exact ⟨rfl, rfl⟩
 ·have q : j = a.w.c.ms.length - 1 := by omega
  have eq1 : ∀ i, i < a.w.c.ms.length -> gD (CR a.w a.l) i = Qm a j i := λ i hi => by
   unfold CR; rw [BD _ _ _ (by omega), hl]
   have q2 : decide (a.w.c.ms.length - 1 - j <= i) = true := by rw [decide_eq_true_eq]; omega
   unfold Qm; rw [q2]; rfl
  have nl : (CR a.w a.l).length = a.w.c.ms.length := by unfold CR; rw [rng_length, hl]
  refine ⟨⟨λ i hi => by rw [BD _ _ _ hi]; exact ⟨rfl, rfl⟩, λ i hi => by rw [BD _ _ _ hi]; exact ⟨rfl, rfl⟩, by omega⟩, nl, ?_, ?_⟩
  ·congr 1
   exact CUZ (by rw [nl, rng_length]) λ i hi => by rw [eq1 i (by omega), BD _ _ _ (by omega)]
  ·exact ⟨nl, λ i hi => by rw [eq1 i (by omega)]; exact ⟨rfl, rfl⟩⟩
theorem DIP : AN Try.prog HN (C_narO.spec dDkS) := MB C_narO CYS [(0, 2016)] [] BHT (λ _ => by kernel_rfl) (λ _ => AD CVO (AD AEB (AD CXU (AD DID AI)))) (λ a h => DPU a h) (λ a => CQB LW (DDR a) rfl rfl AI cE (by kernel_rfl) (by kernel_rfl)) _
def C_timO : Ctr := { ro := [100, 101], α := Dk, xs := λ _ => [.bptr 100 0], L := λ w => dkL w, val := λ w => .tup [.own 0 2 0 (CR w (DQ w.c)).length, .bool ((CR w (DQ w.c)).all DZ)], keep := λ w => dkK w ++ [(0, .live (rowS (CR w (DQ w.c))))], pre := λ w => [(1 <= w.c.ms.length /\ w.c.ms.length <= 40 /\ nsIn w.c) /\ FG w.c = true] }
def DET : Ann := { ann 19 [(CEG, C_all.spec Dh), (AIG, C_not.spec Dh), (HN, C_narO.spec dDkS)] with E := [100, 101] }
def DDE (w : Dk) : Prop := BA Try.prog DET ADK (AL ADK) (C_timO.xs w) (AG (C_timO.L w)) (C_timO.val w) (C_timO.keep w) [(0, 5048)] []
abbrev RA (w : Dk) : Prop := w.c.p.lo = w.c.p.lo
abbrev QV (w : Dk) : Prop := w.c.p.hi = w.c.p.hi
abbrev AHK (w : Dk) : List Mk := AF w.c.ms.length λ (i : Nat) => gD w.c.ms i
abbrev PT (w : Dk) : Nat := (AHK w).length
abbrev AEZ (w : Dk) : Prop := PT w = w.c.ms.length
abbrev CCT (w : Dk) (i : Nat) : Mk := gD (AHK w) i
abbrev BUY (w : Dk) (i : Nat) : Int := (CCT w i).pl
abbrev BNZ (w : Dk) (i : Nat) : Int := (CCT w i).ht
abbrev AIC (w : Dk) : Prop := ∀ (i : Nat), i < PT w -> BUY w i = (gD w.c.ms i).pl /\ BNZ w i = (gD w.c.ms i).ht
abbrev Ga (w : Dk) : List Nt := AF w.c.ns.length λ (i : Nat) => gD w.c.ns i
abbrev lI (w : Dk) : Nat := (Ga w).length
abbrev mQ (w : Dk) : Prop := lI w = w.c.ns.length
abbrev mX (w : Dk) (i : Nat) : Nt := gD (Ga w) i
abbrev BGP (w : Dk) (i : Nat) : Int := (mX w i).mi
abbrev AXG (w : Dk) (i : Nat) : Span := (mX w i).t
abbrev ARK (w : Dk) (i : Nat) : Int := (AXG w i).lo
abbrev BCL (w : Dk) (i : Nat) : Int := (AXG w i).hi
abbrev BFR (w : Dk) (i : Nat) : Span := (mX w i).s
abbrev AON (w : Dk) (i : Nat) : Int := (BFR w i).lo
abbrev AVQ (w : Dk) (i : Nat) : Int := (BFR w i).hi
abbrev gB (w : Dk) : Prop := ∀ (i : Nat), i < lI w -> BGP w i = (gD w.c.ns i).mi /\ ARK w i = (gD w.c.ns i).t.lo /\ BCL w i = (gD w.c.ns i).t.hi /\ AON w i = (gD w.c.ns i).s.lo /\
 AVQ w i = (gD w.c.ns i).s.hi
abbrev KP (w : Dk) : Prop := ∀ (i : Nat), i < 40 -> w.sp i = w.sp i
abbrev rN (w : Dk) (n : Int) : Bool := hasN (Ga w) n
abbrev fE (w : Dk) : Prop := ∀ (n : Int), rN w n = hasN w.c.ns n
abbrev KZ (w : Dk) : Prop := ∀ (n : Int), w.st n = w.st n
abbrev kL (w : Dk) (n : Int) : Nt := ntOf (Ga w) n
abbrev ASM (w : Dk) (n : Int) : Int := (kL w n).mi
abbrev BAD (w : Dk) (n : Int) : Span := (kL w n).t
abbrev AOB (w : Dk) (n : Int) : Int := (BAD w n).lo
abbrev BCY (w : Dk) (n : Int) : Int := (BAD w n).hi
abbrev AYY (w : Dk) (n : Int) : Span := (kL w n).s
abbrev ATQ (w : Dk) (n : Int) : Int := (AYY w n).lo
abbrev AZZ (w : Dk) (n : Int) : Int := (AYY w n).hi
abbrev qH (w : Dk) : Prop := ∀ (n : Int), ASM w n = (ntOf w.c.ns n).mi /\ AOB w n = (ntOf w.c.ns n).t.lo /\ BCY w n = (ntOf w.c.ns n).t.hi /\ ATQ w n = (ntOf w.c.ns n).s.lo /\ AZZ w n =
 (ntOf w.c.ns n).s.hi
abbrev qP (w : Dk) : Prop := w.c.ms.length = PT w
abbrev fJ (w : Dk) : Prop := ∀ (i : Nat), i < w.c.ms.length -> (gD w.c.ms i).pl = BUY w i /\ (gD w.c.ms i).ht = BNZ w i
abbrev kA (w : Dk) : Prop := w.c.ns.length = lI w
abbrev qI (w : Dk) : Prop := ∀ (i : Nat), i < w.c.ns.length -> (gD w.c.ns i).mi = BGP w i /\ (gD w.c.ns i).t.lo = ARK w i /\ (gD w.c.ns i).t.hi = BCL w i /\ (gD w.c.ns i).s.lo = AON w i /\ (gD
 w.c.ns i).s.hi = AVQ w i
abbrev iM (w : Dk) : Prop := ∀ (n : Int), hasN w.c.ns n = rN w n
abbrev oK (w : Dk) : Prop := ∀ (n : Int), (ntOf w.c.ns n).mi = ASM w n /\ (ntOf w.c.ns n).t.lo = AOB w n /\ (ntOf w.c.ns n).t.hi = BCY w n /\ (ntOf w.c.ns n).s.lo = ATQ w n /\ (ntOf w.c.ns
 n).s.hi = AZZ w n
abbrev AYA (w : Dk) : Prop := 1 <= PT w
abbrev AZW (w : Dk) : Prop := PT w <= 40
abbrev BAF (w : Dk) : Prop := AYA w /\ AZW w
abbrev mM (w : Dk) : Cht := Cht.mk w.c.p w.c.base w.c.scale w.c.off (AHK w) (Ga w)
abbrev AUR (w : Dk) : List Span := DQ (mM w)
abbrev ALZ (w : Dk) : Nat := (AUR w).length
abbrev kE (w : Dk) (i : Nat) : Span := gD (AUR w) i
abbrev mZ (w : Dk) : List Span := AF (ALZ w) λ (i : Nat) => kE w i
abbrev oE (w : Dk) : Nat := (mZ w).length
abbrev BET (w : Dk) (i : Nat) : Span := gD (mZ w) i
abbrev qN (w : Dk) : List Span := CR (Dk.mk (mM w) w.st w.sp) (mZ w)
abbrev AUQ (w : Dk) : Prop := (CR w (DQ w.c)).length = (qN w).length
abbrev BEU (w : Dk) (i : Nat) : Span := gD (qN w) i
theorem DLQ (w : Dk) : (DDE w) = ((RA w /\ QV w /\ w.c.base = w.c.base /\ w.c.scale = w.c.scale /\ w.c.off = w.c.off /\ AEZ w /\ AIC w /\ mQ w /\ gB w /\ KP w /\ AO = AO /\
 fE w /\ KZ w /\ qH w /\ RA w /\ QV w /\ w.c.base = w.c.base /\ w.c.scale = w.c.scale /\ w.c.off = w.c.off /\ qP w /\ fJ w /\ kA w /\ qI w /\ KP w /\ AO = AO /\
 iM w /\ KZ w /\ oK w /\ BAF w) /\ bif !FG (mM w) then False else (RA w /\ QV w /\ w.c.base = w.c.base /\ w.c.scale = w.c.scale /\ w.c.off = w.c.off /\ AEZ w /\ AIC w /\
 mQ w /\ gB w /\ KP w /\ AO = AO /\ fE w /\ KZ w /\ qH w /\ RA w /\ QV w /\ w.c.base = w.c.base /\ w.c.scale = w.c.scale /\ w.c.off = w.c.off /\ qP w /\ fJ w /\
 kA w /\ qI w /\ KP w /\ AO = AO /\ iM w /\ KZ w /\ oK w /\ (AYA w /\ AZW w /\ ∀ (j : Int), rN w j = true -> 0 <= j /\ j < (↑(PT w) : Int)) /\ oE w =
 ALZ w /\ (∀ (i : Nat), i < oE w -> (BET w i).lo = (kE w i).lo /\ (BET w i).hi = (kE w i).hi) /\ RA w /\ QV w /\ w.c.base = w.c.base /\ w.c.scale = w.c.scale /\ w.c.off = w.c.off
 /\ AEZ w /\ AIC w /\ mQ w /\ gB w /\ KP w /\ AO = AO /\ fE w /\ KZ w /\ qH w /\ RA w /\ QV w /\ w.c.base = w.c.base /\ w.c.scale = w.c.scale /\ w.c.off = w.c.off /\
 qP w /\ fJ w /\ kA w /\ qI w /\ KP w /\ AO = AO /\ iM w /\ KZ w /\ oK w /\ oE w = PT w /\ BAF w) /\ 0 = 0 /\ AUQ w /\ (CR w (DQ w.c)).all DZ =
 (qN w).all DZ /\ RA w /\ QV w /\ w.c.base = w.c.base /\ w.c.scale = w.c.scale /\ w.c.off = w.c.off /\ w.c.ms.length = w.c.ms.length /\ (∀ (i : Nat), i < w.c.ms.length -> (gD w.c.ms i).pl = (gD w.c.ms i).pl /\
 (gD w.c.ms i).ht = (gD w.c.ms i).ht) /\ w.c.ns.length = w.c.ns.length /\ (∀ (i : Nat), i < w.c.ns.length -> (gD w.c.ns i).mi = (gD w.c.ns i).mi /\ (gD w.c.ns i).t.lo = (gD w.c.ns i).t.lo /\ (gD w.c.ns i).t.hi = (gD w.c.ns
 i).t.hi /\ (gD w.c.ns i).s.lo = (gD w.c.ns i).s.lo /\ (gD w.c.ns i).s.hi = (gD w.c.ns i).s.hi) /\ KP w /\ AO = AO /\ (∀ (n : Int), hasN w.c.ns n = hasN w.c.ns n) /\ KZ w /\ (∀ (n : Int), (ntOf w.c.ns n).mi =
 (ntOf w.c.ns n).mi /\ (ntOf w.c.ns n).t.lo = (ntOf w.c.ns n).t.lo /\ (ntOf w.c.ns n).t.hi = (ntOf w.c.ns n).t.hi /\ (ntOf w.c.ns n).s.lo = (ntOf w.c.ns n).s.lo /\ (ntOf w.c.ns n).s.hi = (ntOf w.c.ns n).s.hi) /\ AUQ w /\
 ∀ (i : Nat), i < (CR w (DQ w.c)).length -> (gD (CR w (DQ w.c)) i).lo = (BEU w i).lo /\ (gD (CR w (DQ w.c)) i).hi = (BEU w i).hi) := by kernel_rfl
theorem CXR : AN Try.prog Ap (C_timO.spec Dh) := MB C_timO (λ _ => DET) [(0, 5048)] [] CSF (λ _ => by kernel_rfl) (λ _ => AD BRU (AD CUP (AD DIP AI))) (λ (w : Dk) h => by
 obtain ⟨⟨h1, h2, h3⟩, h4⟩ : (1 <= w.c.ms.length /\ w.c.ms.length <= 40 /\ nsIn w.c) /\ FG w.c = true := h
 show DDE w; rw [DLQ]; delta RA QV AHK PT AEZ CCT BUY BNZ AIC Ga lI mQ mX BGP AXG ARK BCL BFR AON AVQ gB KP rN fE KZ kL ASM BAD AOB BCY AYY ATQ AZZ qH qP fJ kA qI iM oK AYA AZW BAF mM AUR ALZ kE mZ oE BET qN AUQ BEU; simp only [AU, eq_self, implies_true, and_self, true_and, and_true, true_implies, forall_const, decide_eq_true_eq, decide_eq_false_iff_not, Int.toNat_natCast, dSpan_eSpan, dInt_eInt, AY, AW, AX, Nat.zero_add, Int.zero_sub, Nat.le_eq, Nat.succ_eq_add_one, Nat.add_one_le_iff, Bool.not_eq_true', Bool.not_eq_false', rng_length, AK, AJ, BI, RO, h4]
 exact ⟨⟨h1, h2⟩, (λ h => by cases h), ⟨h1, h2, h3⟩, CJ _, h1, h2⟩) (λ _ => OS rfl rfl) _
def dIs1 : List AVal -> Heap -> Option (List Int × List (Nat × Nat) × List Nat)
 | [y], H => match BZN y H with
  | some (l, f) => some (l, [], f)
  | none => none
 | _, _ => none
def C_cloI : Ctr := { α := List Int, xs := λ l => [.d (BB l)], val := λ l => .d (BB l), keep := λ _ => [], pre := λ l => [l.length < 4611686018427387904] }
def DHY : Ann := ann 8 []
def DDS (l : List Int) : Prop := BA Try.prog DHY Tm (AL Tm) (C_cloI.xs l) (AG []) (C_cloI.val l) (C_cloI.keep l) [] []
theorem DLV (l : List Int) : (DDS l) = ((Nat.succ 0).le l.length /\ ((0 = 0 /\ (0 < 0 -> 1 = 1)) /\ (True /\ (0 < l.length -> 1 = 1)) /\ (false = true -> 0 < l.length) /\ 0 + l.length <= 9223372036854775807 /\ (0 + l.length)
 * 8 <= 140737488355328) /\ l.length = 0 + l.length /\ ∀ (i : Nat), i < l.length -> gD l i = gD l (i - 0)) := by kernel_rfl
end Go.Bal
