/- Package chart: times are narrowed. -/
import Derived.Test.YtdbjalgfomknhaaChD1
set_option linter.unusedVariables false
set_option linter.unusedSimpArgs false
namespace Go.Bal
open Go Go.Sym Go.Proofs
def C_gaps : Ctr := { ro := [100, 101], α := Dk, xs := λ _ => [.bptr 100 0], L := λ w => dkL w, val := λ _ => .fn (.func gA) [] [.bptr 0 0], keep := λ w => dkK w ++ [(0, .live (.box [.bptr 100 0]))] }
def CFQ : Ann := { ann 4 [] with E := [100, 101] }
def CIU (w : Dk) : Prop := AW Try.prog CFQ BYJ (AK BYJ) (C_gaps.xs w) (AF (C_gaps.L w)) (C_gaps.val w) (C_gaps.keep w) [(0, 1000)] []
theorem CNZ (w : Dk) : (CIU w) = (w.c.p.lo = w.c.p.lo /\ w.c.p.hi = w.c.p.hi /\ w.c.base = w.c.base /\ w.c.scale = w.c.scale /\ w.c.off = w.c.off /\ w.c.ms.length = w.c.ms.length /\ (∀ (i : Nat), i < w.c.ms.length -> (gD
 w.c.ms i).pl = (gD w.c.ms i).pl /\ (gD w.c.ms i).ht = (gD w.c.ms i).ht) /\ w.c.ns.length = w.c.ns.length /\ (∀ (i : Nat), i < w.c.ns.length -> (gD w.c.ns i).mi = (gD w.c.ns i).mi /\ (gD w.c.ns i).t.lo = (gD w.c.ns i).t.lo /\
 (gD w.c.ns i).t.hi = (gD w.c.ns i).t.hi /\ (gD w.c.ns i).s.lo = (gD w.c.ns i).s.lo /\ (gD w.c.ns i).s.hi = (gD w.c.ns i).s.hi) /\ (∀ (i : Nat), i < 40 -> w.sp i = w.sp i) /\ AT = AT /\ (∀ (n : Int), hasN w.c.ns n = hasN
 w.c.ns n) /\ (∀ (n : Int), w.st n = w.st n) /\ ∀ (n : Int), (ntOf w.c.ns n).mi = (ntOf w.c.ns n).mi /\ (ntOf w.c.ns n).t.lo = (ntOf w.c.ns n).t.lo /\ (ntOf w.c.ns n).t.hi = (ntOf w.c.ns n).t.hi /\ (ntOf w.c.ns n).s.lo = (ntOf
 w.c.ns n).s.lo /\ (ntOf w.c.ns n).s.hi = (ntOf w.c.ns n).s.hi) := by kernel_rfl
theorem CBK : AL Try.prog BLA (C_gaps.spec dDk1) := KV C_gaps (λ _ => CFQ) [(0, 1000)] [] COP (λ _ => by kernel_rfl) (λ _ => AI) (λ (w : Dk) _ => by
 show CIU w; rw [CNZ]; simp) (λ _ => MD rfl rfl) _
def farM (c : Cht) (g : Nat) : Int := wr ((gD c.ms (g + 1)).pl - (gD c.ms g).pl)
def DZ (w : Dk) (g : Nat) : Span := ⟨wr (w.c.p.lo * farM w.c g), bif w.sp g then 200000000 else wr (w.c.p.hi * farM w.c g)⟩
def KX (w : Dk) : List Span := AE (w.c.ms.length - 1) λ g => DZ w g
structure LIS where
 l : List Span
 k : Int
 s : Span
def upd1 (l : List Span) (k : Int) (s : Span) (i : Nat) : Span := bif decide (i = k.toNat) then Ka (gD l k.toNat) s else gD l i
def lkR (n : Nat) (f : Nat -> Span) : List (Nat × HCell) := [(100, .live (.box [.own 101 2 0 n])), (101, .live (.row 2 n λ i => BT (f i)))]
def C_nar1 : Ctr := { ro := [100], α := LIS, xs := λ a => [.int a.k, .d (BT a.s), .bptr 100 0], L := λ a => [(100, .box [.own 101 2 0 a.l.length]), (101, rowS a.l)], val := λ _ => .d (.tup []), keep := λ a => lkR a.l.length (upd1 a.l a.k a.s), pre := λ a => [0 <= a.k /\ a.k < a.l.length] }
def CHF : List AVal -> Heap -> Option (LIS × List (Nat × Nat) × List Nat)
 | [.d k, .d s, .bptr id _], H => match H id with
  | .live (.box [.own j _ _ _]) => match H j with
   | .live (.row _ n g) => some (⟨AE n λ i => KY (g i), BU k, KY s⟩, [(100, id), (101, j)], [])
   | _ => none
  | _ => none
 | _, _ => none
def CHP : Ann := { ann 15 [(D0, C_com.spec CFY)] with E := [100, 101] }
def CFI (a : LIS) : Prop := AW Try.prog CHP BXX (AK BXX) (C_nar1.xs a) (AF (C_nar1.L a)) (C_nar1.val a) (C_nar1.keep a) [] []
theorem CMR (a : LIS) : (CFI a) = (((0 <= a.k /\ a.k < (↑a.l.length : Int)) /\ 0 + a.k.toNat < a.l.length /\ (gD a.l (0 + a.k.toNat)).lo = (gD a.l (0 + a.k.toNat)).lo /\ (gD a.l (0 + a.k.toNat)).hi = (gD a.l (0 +
 a.k.toNat)).hi /\ (AE 1 λ (i : Nat) => a.s).length = 1 /\ 1 <= 1 /\ (∀ (j : Nat), j < (AE 1 λ (i : Nat) => a.s).length -> (gD (AE 1 λ (i : Nat) => a.s) j).lo = a.s.lo /\ (gD (AE 1 λ (i : Nat) => a.s) j).hi =
 a.s.hi) /\ true = true /\ (0 <= a.k /\ a.k < (↑a.l.length : Int)) /\ (0 + a.k.toNat).succ.le a.l.length) /\ 0 = 0 /\ a.l.length = a.l.length /\ a.l.length = a.l.length /\ ∀ (i : Nat), i < a.l.length -> ((upd1 a.l a.k a.s i).lo =
 bif decide (i = 0 + a.k.toNat) then (comM (SL.mk (gD a.l (0 + a.k.toNat)) (AE 1 λ (i : Nat) => a.s))).lo else (gD a.l i).lo) /\ (upd1 a.l a.k a.s i).hi = bif decide (i = 0 + a.k.toNat) then (comM (SL.mk (gD a.l (0 +
 a.k.toNat)) (AE 1 λ (i : Nat) => a.s))).hi else (gD a.l i).hi) := by kernel_rfl
theorem COF : AL Try.prog AFH (C_nar1.spec CHF) := KV C_nar1 (λ _ => CHP) [] [] CPN (λ _ => by kernel_rfl) (λ _ => AD CLJ AI) (λ (a : LIS) h => by
 show CFI a; rw [CMR]; simp only [CC, eq_self, implies_true, forall_const]
 have h : 0 <= a.k /\ a.k < a.l.length := h
 have e : comM ⟨gD a.l a.k.toNat, AE 1 λ _ => a.s⟩ = Ka (gD a.l a.k.toNat) a.s := rfl
 refine ⟨⟨h, by omega, by omega, λ j hj => by rw [BK _ _ _ hj]; exact ⟨rfl, rfl⟩, h, by omega⟩, λ i hi => ?_⟩
 rw [e]; unfold upd1
 cases decide (i = a.k.toNat) <;> exact ⟨rfl, rfl⟩) (λ _ => MD rfl rfl) _
def addS (a s : Span) : Span := ⟨wr (a.lo + s.lo), wr (a.hi + s.hi)⟩
def subS (a s : Span) : Span := ⟨wr (a.lo - s.hi), wr (a.hi - s.lo)⟩
def fwM (l : List Span) (s : Nat -> Span) : Nat -> Span
 | 0 => gD l 0
 | g + 1 => Ka (gD l (g + 1)) (addS (fwM l s g) (s g))
def bkM (f s : Nat -> Span) (n : Nat) : Nat -> Span
 | 0 => f n
 | j + 1 => Ka (f (n - (j + 1))) (subS (bkM f s n j) (s (n - (j + 1))))
def KF (w : Dk) (l : List Span) : List Span := AE l.length λ i => bkM (fwM l (DZ w)) (DZ w) (l.length - 1) (l.length - 1 - i)
structure DkS where
 w : Dk
 l : List Span
def dDkS : List AVal -> Heap -> Option (DkS × List (Nat × Nat) × List Nat)
 | [.bptr id _, y], H => match hC H id, YT y H with
  | some (w, q), some (l, f) => some (⟨w, l⟩, [(100, id), (101, q)], f)
  | _, _ => none
 | _, _ => none
def C_nar : Ctr := { ro := [100, 101], α := DkS, xs := λ a => [.bptr 100 0, .d (AV a.l)], L := λ a => dkL a.w, val := λ a => .tup [.d (AV (KF a.w a.l)), .bool ((KF a.w a.l).all IL)], keep := λ a => dkK a.w, pre := λ a => [a.l.length = a.w.c.ms.length /\ 1 <= a.w.c.ms.length /\ a.w.c.ms.length <= 40] }
def nrH (a : DkS) (f : Nat -> Span) (p : AVal) : List (Nat × HCell) := dkK a.w ++ [(2016, .live (.row 2 a.l.length λ i => BT (f i))), (2032, .live (.box [.own 2016 2 0 a.l.length])), (3000, .live (.box [p]))]
def gpS (a : DkS) (l k : Nat) : List (Nat × AVal) := [(0, .fn (.yield l) [] []), (1, .bptr 4016 0), (12, .int (wr ((a.w.c.ms.length : Int) - 1))), (13, .int k)]
def gpB : Nat × HCell := (4016, .live (.box [.bptr 100 0]))
def gp1n (a : DkS) (l : Nat) : Shape := { α := One, dflt := default, T := λ _ => ⟨gpS a l 0, nrH a (gD a.l) (.d FG) ++ [gpB]⟩, inv := λ _ => True, meas := λ _ => 60 }
def gp1o (a : DkS) (l : Nat) : Shape := { α := Nat, dflt := 0, T := λ k => ⟨gpS a l k, nrH a (gD a.l) (.own 302 2 0 k) ++ [gpB, (302, .live (.row 2 k λ i => BT (DZ a.w i)))]⟩, inv := λ k => 1 <= k /\ k <= a.w.c.ms.length - 1, meas := λ k => 50 - k, again := [(302, 6048)] }
noncomputable def CSA (a : DkS) : IterAnn := { fn := L7, code := AK L7, live := [6, 7], ann := { base := λ id => 100000 + 1000 * (id + 1), Γ := Sym.look [], E := [100, 101, 2016, 2032, 3000, 4016], n := 66, inner := λ gs id => if id = 1 then some [gp1n a (gs.getD 0 0), gp1o a (gs.getD 0 0)] else none } }
def nr6T (a : DkS) : One -> ST := λ _ => ⟨[(6, .bptr 2032 0), (7, .bptr 3000 0)], nrH a (gD a.l) (.d (AV (KX a.w)))⟩
def nr6 (a : DkS) (z : List Nat) : Shape := { α := One, dflt := default, T := nr6T a, inv := λ _ => True, meas := λ _ => 0, ffz := z }
def nr7 (a : DkS) : Shape := { α := One, dflt := default, T := λ _ => ⟨[(6, .bptr 2032 0), (7, .bptr 3000 0), (10, .fn (.func AFH) [] [.bptr 2032 0])], nrH a (gD a.l) (.d (AV (KX a.w)))⟩, inv := λ _ => True, meas := λ _ => 0 }
def nrF (a : DkS) (k i : Nat) : Span := bif decide (i <= k) then fwM a.l (DZ a.w) i else gD a.l i
def nrB (a : DkS) (j i : Nat) : Span := bif decide (a.w.c.ms.length - 1 - j <= i) then bkM (fwM a.l (DZ a.w)) (DZ a.w) (a.w.c.ms.length - 1) (a.w.c.ms.length - 1 - i) else fwM a.l (DZ a.w) i
def nr8 (a : DkS) : Shape := { α := Nat, dflt := 0, T := λ k => ⟨[(6, .bptr 2032 0), (7, .bptr 3000 0), (10, .fn (.func AFH) [] [.bptr 2032 0]), (25, .d (AV (KX a.w))), (26, .int (KX a.w).length), (27, .int k)], nrH a (nrF a k) (.d (AV (KX a.w)))⟩, inv := λ k => k <= a.w.c.ms.length - 1, meas := λ k => 50 - k }
def nr13 (a : DkS) : Shape := { α := Nat, dflt := 0, T := λ j => ⟨[(6, .bptr 2032 0), (7, .bptr 3000 0), (10, .fn (.func AFH) [] [.bptr 2032 0]), (13, .int ((a.w.c.ms.length : Int) - 2 - j))], nrH a (nrB a j) (.d (AV (KX a.w)))⟩, inv := λ j => j <= a.w.c.ms.length - 1, meas := λ j => 50 - j }
noncomputable def CPX (a : DkS) : Ann := { ann 92 [(H4, C_clo.spec dSs1), (BLA, C_gaps.spec dDk1), (AFH, C_nar1.spec CHF), (n_eS, C4SnO.spec CQH)] with E := [100, 101], mt := λ id => id == 5, iter := λ g => if g = gA then some (CSA a) else none, loops := λ id => if id = 8 then some [nr8 a] else if id = 13 then some [nr13 a] else none, cut := λ id => if id = 6 then some [nr6 a [], nr6 a [302]] else if id = 7 then some [nr7 a] else none }
def CRO (a : DkS) : Prop := AW Try.prog (CPX a) iG (AK iG) (C_nar.xs a) (AF (C_nar.L a)) (C_nar.val a) (C_nar.keep a) [] [2016]
abbrev BPB (a : DkS) : List Span := AE a.l.length λ (i : Nat) => gD a.l i
abbrev dR (a : DkS) : Nat := (BPB a).length
abbrev BMF (a : DkS) (i : Nat) : Span := gD (BPB a) i
abbrev BSY (a : DkS) (i : Nat) : Int := (BMF a i).lo
abbrev BMZ (a : DkS) (i : Nat) : Int := (BMF a i).hi
abbrev FI (a : DkS) : Prop := a.w.c.p.lo = a.w.c.p.lo
abbrev FJ (a : DkS) : Prop := a.w.c.p.hi = a.w.c.p.hi
abbrev FH (a : DkS) : Prop := a.w.c.base = a.w.c.base
abbrev FK (a : DkS) : Prop := a.w.c.scale = a.w.c.scale
abbrev FL (a : DkS) : Prop := a.w.c.off = a.w.c.off
abbrev ASP (a : DkS) : List Mk := AE a.w.c.ms.length λ (i : Nat) => gD a.w.c.ms i
abbrev D7 (a : DkS) : Nat := (ASP a).length
abbrev BCB (a : DkS) (i : Nat) : Mk := gD (ASP a) i
abbrev AZO (a : DkS) (i : Nat) : Int := (BCB a i).pl
abbrev BAZ (a : DkS) (i : Nat) : Int := (BCB a i).ht
abbrev Ue (a : DkS) : List Nt := AE a.w.c.ns.length λ (i : Nat) => gD a.w.c.ns i
abbrev zE (a : DkS) : Nat := (Ue a).length
abbrev uC (a : DkS) (i : Nat) : Nt := gD (Ue a) i
abbrev AVU (a : DkS) (i : Nat) : Int := (uC a i).mi
abbrev BFW (a : DkS) (i : Nat) : Span := (uC a i).t
abbrev ATV (a : DkS) (i : Nat) : Int := (BFW a i).lo
abbrev Lw (a : DkS) (i : Nat) : Int := (gD a.w.c.ns i).t.lo
abbrev AVC (a : DkS) (i : Nat) : Int := (BFW a i).hi
abbrev St (a : DkS) (i : Nat) : Int := (gD a.w.c.ns i).t.hi
abbrev BBZ (a : DkS) (i : Nat) : Span := (uC a i).s
abbrev AWC (a : DkS) (i : Nat) : Int := (BBZ a i).lo
abbrev Ww (a : DkS) (i : Nat) : Int := (gD a.w.c.ns i).s.lo
abbrev BHJ (a : DkS) (i : Nat) : Int := (BBZ a i).hi
abbrev Ob (a : DkS) (i : Nat) : Int := (gD a.w.c.ns i).s.hi
abbrev DE (a : DkS) : Prop := ∀ (i : Nat), i < (40 : Nat) -> a.w.sp i = a.w.sp i
abbrev BFO (a : DkS) (n : Int) : Bool := hasN (Ue a) n
abbrev DG (a : DkS) : Prop := ∀ (n : Int), a.w.st n = a.w.st n
abbrev H7 (a : DkS) (n : Int) : Nt := ntOf (Ue a) n
abbrev BEW (a : DkS) (n : Int) : Int := (H7 a n).mi
abbrev BIG (a : DkS) (n : Int) : Span := (H7 a n).t
abbrev BCE (a : DkS) (n : Int) : Int := (BIG a n).lo
abbrev ASX (a : DkS) (n : Int) : Int := (BIG a n).hi
abbrev AZA (a : DkS) (n : Int) : Span := (H7 a n).s
abbrev AYQ (a : DkS) (n : Int) : Int := (AZA a n).lo
abbrev AYH (a : DkS) (n : Int) : Int := (AZA a n).hi
abbrev ASA (i : Nat) (a : DkS) : Prop := i < a.w.c.ms.length
abbrev BEU (i : Nat) (a : DkS) : Prop := i < a.w.c.ns.length
abbrev BBM (a : DkS) : Int := (↑a.w.c.ms.length : Int) - (1 : Int)
abbrev Do (a : DkS) : Int := wr (BBM a)
abbrev EV (a : DkS) : Prop := a.w.c.ms.length = a.w.c.ms.length
abbrev EL (a : DkS) : Prop := ∀ (i : Nat), ASA i a -> (gD a.w.c.ms i).pl = (gD a.w.c.ms i).pl /\ (gD a.w.c.ms i).ht = (gD a.w.c.ms i).ht
abbrev EO (a : DkS) : Prop := a.w.c.ns.length = a.w.c.ns.length
abbrev EP (a : DkS) : Prop := ∀ (i : Nat), BEU i a -> (gD a.w.c.ns i).mi = (gD a.w.c.ns i).mi /\ Lw a i = Lw a i /\ St a i = St a i /\ Ww a i = Ww a i /\ Ob a i = Ob
 a i
abbrev EJ (a : DkS) : Prop := ∀ (n : Int), hasN a.w.c.ns n = hasN a.w.c.ns n
abbrev EW (a : DkS) : Prop := ∀ (n : Int), (ntOf a.w.c.ns n).mi = (ntOf a.w.c.ns n).mi /\ (ntOf a.w.c.ns n).t.lo = (ntOf a.w.c.ns n).t.lo /\ (ntOf a.w.c.ns n).t.hi = (ntOf a.w.c.ns n).t.hi /\ (ntOf a.w.c.ns n).s.lo =
 (ntOf a.w.c.ns n).s.lo /\ (ntOf a.w.c.ns n).s.hi = (ntOf a.w.c.ns n).s.hi
abbrev AYL (a : DkS) : Prop := a.l.length = dR a
abbrev CK : Prop := (0 : Nat) = (0 : Nat)
abbrev z_nar_52 : Int := IntKind.i64.wrap ((↑(0 : Nat) : Int) + (1 : Int))
abbrev ATM : Prop := (0 : Int) <= (↑(0 : Nat) : Int)
abbrev B6 : Prop := (0 : Nat) < (1 : Nat)
abbrev AVP : Prop := (2 : Nat) = (2 : Nat)
abbrev BES : Prop := (1 : Nat) <= (1 : Nat) /\ (B6 -> AVP)
abbrev BBG : Prop := (True /\ ((0 : Nat) < (0 : Nat) -> (0 : Nat) = (2 : Nat))) /\ BES /\ (true = true -> B6) /\ (1 : Nat) <= (9223372036854775807 : Nat) /\ (16 : Nat) <= (140737488355328 : Nat)
abbrev Ug (a : DkS) : Prop := Do a = Do a
abbrev BDK (a : Nat) : Prop := (↑a : Int) = z_nar_52
abbrev CX (a : DkS) : Prop := a.l.length = a.l.length
abbrev NH (a : DkS) : Prop := ∀ (i : Nat), i < a.l.length -> (gD a.l i).lo = (gD a.l i).lo /\ (gD a.l i).hi = (gD a.l i).hi
abbrev BFQ (a : DkS) : Int := IntKind.i64.wrap ((gD a.w.c.ms z_nar_52.toNat).pl - (gD a.w.c.ms (0 : Nat)).pl)
abbrev ARP (a : DkS) (i : Nat) : Prop := (DZ a.w i).lo = IntKind.i64.wrap (a.w.c.p.lo * BFQ a)
abbrev BAH (a : DkS) : Nat := a.w.c.ms.length - (1 : Nat)
abbrev xA (a : Nat) (a1 : DkS) : Prop := (1 : Nat) <= a /\ a <= BAH a1
abbrev wO (a : Nat) : Nat := (50 : Nat) - a
abbrev ARH (a : Nat) (a1 : DkS) : Prop := xA a a1 /\ wO a < (60 : Nat)
abbrev BEY (a : DkS) : Prop := (KX a.w).length = (0 : Nat)
abbrev KK (a : Nat) : Int := IntKind.i64.wrap ((↑a : Int) + (1 : Int))
abbrev BBX (a : Nat) : Prop := (0 : Int) <= KK a
abbrev Xa (a : Nat) : Prop := (0 : Int) <= (↑a : Int)
abbrev uB (a : Nat) : Nat := a + (1 : Nat)
abbrev AYW (a : Nat) : Prop := (a = a /\ ((0 : Nat) < a -> AVP)) /\ BES /\ (false = true -> B6) /\ uB a <= (9223372036854775807 : Nat) /\ uB a * (16 : Nat) <= (140737488355328 : Nat)
abbrev G0 (a : Nat) (a1 : Nat) : Prop := (↑a : Int) = KK a1
abbrev Rw (a : Nat) (a1 : Nat) : Prop := a = uB a1
abbrev AVH (a : DkS) (a1 : Nat) : Int := IntKind.i64.wrap ((gD a.w.c.ms (KK a1).toNat).pl - (gD a.w.c.ms a1).pl)
abbrev BAY (a : DkS) (i : Nat) (a1 : Nat) : Prop := (DZ a.w i).lo = bif decide (i < a1) then (DZ a.w i).lo else IntKind.i64.wrap (a.w.c.p.lo * AVH a a1)
abbrev AZU (a : Nat) (a1 : Nat) : Prop := wO a < wO a1
abbrev AXX (a : Nat) (a1 : DkS) (a2 : Nat) : Prop := xA a a1 /\ AZU a a2
abbrev An (a : Nat) : Nat := (0 : Nat) + a
abbrev BBL (a : DkS) (j : Nat) : Span := DZ a.w (An j)
abbrev xX (a : DkS) : Prop := (KX a.w).length = (KX a.w).length
abbrev I4 (a : DkS) : Prop := ∀ (i : Nat), i < (KX a.w).length -> (gD (KX a.w) i).lo = (gD (KX a.w) i).lo /\ (gD (KX a.w) i).hi = (gD (KX a.w) i).hi
abbrev Ah (a : DkS) : Prop := CK /\ CX a /\ xX a /\ I4 a
abbrev AVV (a : DkS) : Prop := (↑(KX a.w).length : Int) = (↑(KX a.w).length : Int)
abbrev Dh (a : Nat) (a1 : DkS) : Prop := a.le (BAH a1)
abbrev BHF (a : Nat) (a1 : DkS) : Prop := (↑a : Int) < (↑(KX a1.w).length : Int)
abbrev ARU (a : Nat) (a1 : DkS) : Prop := Xa a /\ (↑a : Int) < (↑a1.l.length : Int)
abbrev AXN (a : Nat) (a1 : DkS) : Prop := An a < a1.l.length
abbrev BHE (a : DkS) (a1 : Nat) : Span := nrF a a1 (An a1)
abbrev uD (a : DkS) (a1 : Nat) : Int := IntKind.i64.wrap ((BHE a a1).lo + (gD (KX a.w) a1).lo)
abbrev yQ (a : DkS) (a1 : Nat) : Int := IntKind.i64.wrap ((BHE a a1).hi + (gD (KX a.w) a1).hi)
abbrev yU (a : DkS) (a1 : Nat) : List Span := AE a.l.length λ (i : Nat) => nrF a a1 i
abbrev Vx (a : DkS) (a1 : Nat) : Nat := (yU a a1).length
abbrev AZV (a : DkS) (a1 : Nat) : Prop := Vx a a1 = a.l.length
abbrev BEZ (a : DkS) (a1 : Nat) (i : Nat) : Span := gD (yU a a1) i
abbrev BAF (a : DkS) (a1 : Nat) : Prop := a.l.length = Vx a a1
abbrev BGX (a : DkS) (a1 : Nat) (i : Nat) : Span := upd1 (yU a a1) (KK a1) (Span.mk (uD a a1) (yQ a a1)) i
abbrev ASF (a : Nat) (a1 : DkS) (a2 : Nat) : Prop := Dh a a1 /\ AZU a a2
abbrev DT (a : DkS) (a1 : Nat) : Int := (↑a.w.c.ms.length : Int) - (2 : Int) - (↑a1 : Int)
abbrev fN (a : DkS) (a1 : Nat) : Int := IntKind.i64.wrap (DT a a1 + (1 : Int))
abbrev AGH (a : DkS) (a1 : Nat) : Prop := (0 : Int) <= fN a a1 /\ fN a a1 < (↑a.l.length : Int)
abbrev AAR (a : DkS) (a1 : Nat) : Nat := (0 : Nat) + (fN a a1).toNat
abbrev AGI (a : DkS) (a1 : Nat) : Prop := AAR a a1 < a.l.length
abbrev AGW (a : DkS) (a1 : Nat) : Prop := (0 : Int) <= DT a a1
abbrev Z3 (a : DkS) (a1 : Nat) : Prop := AGW a a1 /\ DT a a1 < (↑(KX a.w).length : Int)
abbrev Q9 (a : DkS) (a1 : Nat) : Span := nrB a a1 (AAR a a1)
abbrev ACR (a : DkS) (a1 : Nat) : Span := gD (KX a.w) (DT a a1).toNat
abbrev aW (a : DkS) (a1 : Nat) : Int := IntKind.i64.wrap ((Q9 a a1).lo - (ACR a a1).hi)
abbrev cJ (a : DkS) (a1 : Nat) : Int := IntKind.i64.wrap ((Q9 a a1).hi - (ACR a a1).lo)
abbrev Ce (a : DkS) (a1 : Nat) : List Span := AE a.l.length λ (i : Nat) => nrB a a1 i
abbrev QJ (a : DkS) (a1 : Nat) : Nat := (Ce a a1).length
abbrev Dw (a : DkS) (a1 : Nat) : Prop := QJ a a1 = a.l.length
abbrev AJU (a : DkS) (a1 : Nat) (i : Nat) : Span := gD (Ce a a1) i
abbrev ADY (a : DkS) (a1 : Nat) (i : Nat) : Int := (AJU a a1 i).lo
abbrev AIL (a : DkS) (a1 : Nat) (i : Nat) : Int := (AJU a a1 i).hi
abbrev ABQ (a : DkS) (a1 : Nat) : Prop := ∀ (i : Nat), i < QJ a a1 -> ADY a a1 i = (nrB a a1 i).lo /\ AIL a a1 i = (nrB a a1 i).hi
abbrev aL (a : DkS) (a1 : Nat) : Prop := a.l.length = QJ a a1
abbrev AKJ (a : DkS) (a1 : Nat) (i : Nat) : Span := upd1 (Ce a a1) (DT a a1) (Span.mk (aW a a1) (cJ a a1)) i
abbrev O2 (a : DkS) (a1 : Nat) (j : Nat) : Span := nrB a a1 (An j)
abbrev ADT (a : DkS) : Prop := ∀ (a_1 : One), True -> (∃ (a_3 : One), (FI a /\ FJ a /\ FH a /\ FK a /\ FL a /\ EV a /\ EL a /\ EO a /\ EP a /\ DE a /\ AT = AT /\
 EJ a /\ DG a /\ EW a /\ CX a /\ NH a /\ Ah a) /\ True) /\ ∀ (a_3 : One), True -> (∃ (a_5 : Nat), (xX a /\ I4 a /\ AVV a /\ (↑a_5 : Int) = (0 : Int) /\ FI a /\ FJ a /\
 FH a /\ FK a /\ FL a /\ EV a /\ EL a /\ EO a /\ EP a /\ DE a /\ AT = AT /\ EJ a /\ DG a /\ EW a /\ CX a /\ (∀ (i : Nat), i < a.l.length -> (nrF a a_5 i).lo = (gD
 a.l i).lo /\ (nrF a a_5 i).hi = (gD a.l i).hi) /\ Ah a) /\ Dh a_5 a) /\ ∀ (a_5 : Nat), Dh a_5 a -> bif decide (BHF a_5 a) then (Xa a_5 /\ BHF a_5 a) /\ (ARU a_5 a /\ AXN a_5 a /\
 ARU a_5 a /\ AXN a_5 a /\ KK a_5 = KK a_5 /\ uD a a_5 = uD a a_5 /\ yQ a a_5 = yQ a a_5 /\ CK /\ AZV a a_5 /\ AZV a a_5 /\ (∀ (i : Nat), i < Vx a a_5 ->
 (BEZ a a_5 i).lo = (nrF a a_5 i).lo /\ (BEZ a a_5 i).hi = (nrF a a_5 i).hi) /\ CK /\ BAF a a_5 /\ BBX a_5 /\ KK a_5 < (↑(Vx a a_5) : Int)) /\ ∃ (a_7 : Nat), (xX a /\ I4 a /\
 AVV a /\ G0 a_7 a_5 /\ FI a /\ FJ a /\ FH a /\ FK a /\ FL a /\ EV a /\ EL a /\ EO a /\ EP a /\ DE a /\ AT = AT /\ EJ a /\ DG a /\ EW a /\ BAF a
 a_5 /\ (∀ (i : Nat), i < a.l.length -> (nrF a a_7 i).lo = (BGX a a_5 i).lo /\ (nrF a a_7 i).hi = (BGX a a_5 i).hi) /\ Ah a) /\ ASF a_7 a a_5 else (∃ (a_7 : Nat), (DT a a_7 = IntKind.i64.wrap
 ((↑(KX a.w).length : Int) - (1 : Int)) /\ FI a /\ FJ a /\ FH a /\ FK a /\ FL a /\ EV a /\ EL a /\ EO a /\ EP a /\ DE a /\ AT = AT /\ EJ a /\ DG a /\ EW a /\
 CX a /\ (∀ (i : Nat), i < a.l.length -> (nrB a a_7 i).lo = (nrF a a_5 i).lo /\ (nrB a a_7 i).hi = (nrF a a_5 i).hi) /\ Ah a) /\ Dh a_7 a) /\ ∀ (a_7 : Nat), Dh a_7 a -> bif decide (DT a a_7 >= (0 :
 Int)) then (AGH a a_7 /\ AGI a a_7 /\ Z3 a a_7 /\ AGH a a_7 /\ AGI a a_7 /\ Z3 a a_7 /\ DT a a_7 = DT a a_7 /\ aW a a_7 = aW a a_7 /\ cJ a a_7 = cJ
 a a_7 /\ CK /\ Dw a a_7 /\ Dw a a_7 /\ ABQ a a_7 /\ CK /\ aL a a_7 /\ AGW a a_7 /\ DT a a_7 < (↑(QJ a a_7) : Int)) /\ ∃ (a_9 : Nat), (DT a a_9 = IntKind.i64.wrap
 (DT a a_7 - (1 : Int)) /\ FI a /\ FJ a /\ FH a /\ FK a /\ FL a /\ EV a /\ EL a /\ EO a /\ EP a /\ DE a /\ AT = AT /\ EJ a /\ DG a /\ EW a /\ aL a
 a_7 /\ (∀ (i : Nat), i < a.l.length -> (nrB a a_9 i).lo = (AKJ a a_7 i).lo /\ (nrB a a_9 i).hi = (AKJ a a_7 i).hi) /\ Ah a) /\ ASF a_9 a a_7 else (CK /\ Dw a a_7 /\ Dw a a_7 /\
 ABQ a a_7 /\ aL a a_7 /\ (∀ (i : Nat), i < a.l.length -> (nrB a a_7 i).lo = ADY a a_7 i /\ (nrB a a_7 i).hi = AIL a a_7 i) /\ QJ a a_7 < (4611686018427387904 : Nat) /\ True) /\ (KF a.w
 a.l).length = a.l.length /\ (0 : Nat) + a.l.length <= a.l.length /\ (∀ (j : Nat), j < (KF a.w a.l).length -> (gD (KF a.w a.l) j).lo = (O2 a a_7 j).lo /\ (gD (KF a.w a.l) j).hi = (O2 a a_7 j).hi) /\ (KF
 a.w a.l).all IL = (Ce a a_7).all IL /\ FI a /\ FJ a /\ FH a /\ FK a /\ FL a /\ EV a /\ EL a /\ EO a /\ EP a /\ DE a /\ AT = AT /\ EJ a /\ DG a /\ EW a
theorem CVT (a : DkS) : (CRO a) = ((dR a = a.l.length /\ (∀ (i : Nat), i < dR a -> BSY a i = (gD a.l i).lo /\ BMZ a i = (gD a.l i).hi) /\ (0 : Nat) < dR a /\ dR a < (1073741824 : Nat)) /\
 ((FI a /\ FJ a /\ FH a /\ FK a /\ FL a /\ D7 a = a.w.c.ms.length /\ (∀ (i : Nat), i < D7 a -> AZO a i = (gD a.w.c.ms i).pl /\ BAZ a i = (gD a.w.c.ms i).ht) /\ zE a =
 a.w.c.ns.length /\ (∀ (i : Nat), i < zE a -> AVU a i = (gD a.w.c.ns i).mi /\ ATV a i = Lw a i /\ AVC a i = St a i /\ AWC a i = Ww a i /\ BHJ a i = Ob a i) /\ DE a /\
 AT = AT /\ (∀ (n : Int), BFO a n = hasN a.w.c.ns n) /\ DG a /\ (∀ (n : Int), BEW a n = (ntOf a.w.c.ns n).mi /\ BCE a n = (ntOf a.w.c.ns n).t.lo /\ ASX a n = (ntOf a.w.c.ns n).t.hi /\ AYQ a n =
 (ntOf a.w.c.ns n).s.lo /\ AYH a n = (ntOf a.w.c.ns n).s.hi) /\ FI a /\ FJ a /\ FH a /\ FK a /\ FL a /\ a.w.c.ms.length = D7 a /\ (∀ (i : Nat), ASA i a -> (gD a.w.c.ms i).pl = AZO a i
 /\ (gD a.w.c.ms i).ht = BAZ a i) /\ a.w.c.ns.length = zE a /\ (∀ (i : Nat), BEU i a -> (gD a.w.c.ns i).mi = AVU a i /\ Lw a i = ATV a i /\ St a i = AVC a i /\ Ww a i = AWC a
 i /\ Ob a i = BHJ a i) /\ DE a /\ AT = AT /\ (∀ (n : Int), hasN a.w.c.ns n = BFO a n) /\ DG a /\ ∀ (n : Int), (ntOf a.w.c.ns n).mi = BEW a n /\ (ntOf a.w.c.ns n).t.lo = BCE a n /\ (ntOf
 a.w.c.ns n).t.hi = ASX a n /\ (ntOf a.w.c.ns n).s.lo = AYQ a n /\ (ntOf a.w.c.ns n).s.hi = AYH a n) /\ ∀ (l : Nat), (∃ (a_1 : One), (Fn.yield l = Fn.yield l /\ Do a = IntKind.i64.wrap (BBM a) /\
 Int.ofNat (0 : Nat) = Int.ofNat (0 : Nat) /\ FI a /\ FJ a /\ FH a /\ FK a /\ FL a /\ EV a /\ EL a /\ EO a /\ EP a /\ DE a /\ AT = AT /\ EJ a /\ DG a /\ EW a /\
 AYL a /\ (∀ (i : Nat), i < a.l.length -> (gD a.l i).lo = BSY a i /\ (gD a.l i).hi = BMZ a i) /\ CK /\ AYL a /\ CK /\ ∀ (i : Nat), i < (0 : Nat) -> false = false) /\ True) /\ (∀ (a_1 : One), True -> bif
 decide ((↑(0 : Nat) : Int) < Do a) then (((0 : Int) <= z_nar_52 /\ z_nar_52 < (↑a.w.c.ms.length : Int)) /\ ATM /\ (↑(0 : Nat) : Int) < (↑a.w.c.ms.length : Int)) /\ (ATM /\ (↑(0 : Nat) : Int) < (↑(40 : Nat) :
 Int)) /\ (Nat.succ (0 : Nat)).le (40 : Nat) /\ bif a.w.sp (0 : Nat) then l = l /\ BBG /\ ∃ (a_3 : Nat), (Fn.yield l = Fn.yield l /\ Ug a /\ BDK a_3 /\ FI a /\ FJ a /\ FH a /\ FK a /\ FL a /\
 EV a /\ EL a /\ EO a /\ EP a /\ DE a /\ AT = AT /\ EJ a /\ DG a /\ EW a /\ CX a /\ NH a /\ CK /\ CX a /\ CK /\ a_3 = (1 : Nat) /\ a_3 = (1 : Nat) /\ ∀ (i :
 Nat), i < a_3 -> ARP a i /\ (DZ a.w i).hi = (200000000 : Int)) /\ ARH a_3 a else l = l /\ BBG /\ ∃ (a_3 : Nat), (Fn.yield l = Fn.yield l /\ Ug a /\ BDK a_3 /\ FI a /\ FJ a /\ FH a /\
 FK a /\ FL a /\ EV a /\ EL a /\ EO a /\ EP a /\ DE a /\ AT = AT /\ EJ a /\ DG a /\ EW a /\ CX a /\ NH a /\ CK /\ CX a /\ CK /\ a_3 = (1 : Nat) /\
 a_3 = (1 : Nat) /\ ∀ (i : Nat), i < a_3 -> ARP a i /\ (DZ a.w i).hi = IntKind.i64.wrap (a.w.c.p.hi * BFQ a)) /\ ARH a_3 a else ∃ (a_3 : One), (FI a /\ FJ a /\ FH a /\ FK a /\ FL a /\
 EV a /\ EL a /\ EO a /\ EP a /\ DE a /\ AT = AT /\ EJ a /\ DG a /\ EW a /\ CX a /\ NH a /\ CK /\ CX a /\ BEY a /\ BEY a) /\ True) /\ ∀ (a_1 : Nat),
 xA a_1 a -> bif decide ((↑a_1 : Int) < Do a) then ((BBX a_1 /\ KK a_1 < (↑a.w.c.ms.length : Int)) /\ Xa a_1 /\ (↑a_1 : Int) < (↑a.w.c.ms.length : Int)) /\ (Xa a_1 /\ (↑a_1 : Int) < (↑(40 :
 Nat) : Int)) /\ a_1.succ.le (40 : Nat) /\ bif a.w.sp a_1 then l = l /\ AYW a_1 /\ ∃ (a_3 : Nat), (Fn.yield l = Fn.yield l /\ Ug a /\ G0 a_3 a_1 /\ FI a /\ FJ a /\ FH a /\ FK a /\ FL a /\
 EV a /\ EL a /\ EO a /\ EP a /\ DE a /\ AT = AT /\ EJ a /\ DG a /\ EW a /\ CX a /\ NH a /\ CK /\ CX a /\ CK /\ Rw a_3 a_1 /\ Rw a_3 a_1 /\ ∀ (i
 : Nat), i < a_3 -> BAY a i a_1 /\ (DZ a.w i).hi = bif decide (i < a_1) then (DZ a.w i).hi else (200000000 : Int)) /\ AXX a_3 a a_1 else l = l /\ AYW a_1 /\ ∃ (a_3 : Nat), (Fn.yield l = Fn.yield l /\ Ug
 a /\ G0 a_3 a_1 /\ FI a /\ FJ a /\ FH a /\ FK a /\ FL a /\ EV a /\ EL a /\ EO a /\ EP a /\ DE a /\ AT = AT /\ EJ a /\ DG a /\ EW a /\ CX a /\ NH
 a /\ CK /\ CX a /\ CK /\ Rw a_3 a_1 /\ Rw a_3 a_1 /\ ∀ (i : Nat), i < a_3 -> BAY a i a_1 /\ (DZ a.w i).hi = bif decide (i < a_1) then (DZ a.w i).hi else IntKind.i64.wrap (a.w.c.p.hi *
 AVH a a_1)) /\ AXX a_3 a a_1 else ∃ (a_3 : One), (FI a /\ FJ a /\ FH a /\ FK a /\ FL a /\ EV a /\ EL a /\ EO a /\ EP a /\ DE a /\ AT = AT /\ EJ a /\ DG a
 /\ EW a /\ CX a /\ NH a /\ CK /\ CX a /\ (KX a.w).length = a_1 /\ An a_1 <= a_1 /\ ∀ (j : Nat), j < (KX a.w).length -> (gD (KX a.w) j).lo = (BBL a j).lo /\ (gD (KX a.w) j).hi =
 (BBL a j).hi) /\ True) /\ ADT a /\ ADT a) := by kernel_rfl
theorem CDE {L : Nat} {f : Nat -> Span} {k : Int} {s : Span} {i : Nat} (hi : i < L) (hk : k.toNat < L) : upd1 (AE L f) k s i = bif decide (i = k.toNat) then Ka (f k.toNat) s else f i := by
 unfold upd1; rw [BK _ _ _ hi, BK _ _ _ hk]
theorem CFP (a : DkS) {k i : Nat} (hk : k + 1 < a.l.length) (hi : i < a.l.length) : nrF a (k + 1) i = upd1 (AE a.l.length λ i => nrF a k i) ((k + 1 : Nat) : Int) (addS (nrF a k k) (DZ a.w k)) i := by
 rw [CDE hi (by show k + 1 < _; exact hk)]
 show _ = bif decide (i = k + 1) then Ka (nrF a k (k + 1)) _ else _
 by_cases h : i = k + 1
 ·subst h
  simp only [nrF, Nat.le_refl, decide_true, cond_true, show ¬ k + 1 <= k by omega, decide_false, cond_false]
  rfl
 ·have e : decide (i <= k + 1) = decide (i <= k) := by rw [decide_eq_decide]; omega
  simp only [nrF, h, e, decide_false, cond_false]
theorem CJN (a : DkS) {j i : Nat} (hl : a.l.length = a.w.c.ms.length) (hj : j + 2 <= a.l.length) (hi : i < a.l.length) : nrB a (j + 1) i = upd1 (AE a.l.length λ i => nrB a j i) ((a.w.c.ms.length - 2 - j : Nat) : Int) (subS (nrB a j (a.w.c.ms.length - 2 - j + 1)) (DZ a.w (a.w.c.ms.length - 2 - j))) i := by
 rw [CDE hi (by show a.w.c.ms.length - 2 - j < _; omega)]
 show _ = bif decide (i = a.w.c.ms.length - 2 - j) then Ka (nrB a j (a.w.c.ms.length - 2 - j)) _ else _
 by_cases h : i = a.w.c.ms.length - 2 - j
 ·have e1 : decide (a.w.c.ms.length - 1 - (j + 1) <= i) = true := by rw [decide_eq_true_eq]; omega
  have e2 : decide (a.w.c.ms.length - 1 - j <= a.w.c.ms.length - 2 - j) = false := by rw [decide_eq_false_iff_not]; omega
  have e3 : decide (a.w.c.ms.length - 1 - j <= a.w.c.ms.length - 2 - j + 1) = true := by rw [decide_eq_true_eq]; omega
  have e4 : a.w.c.ms.length - 1 - i = j + 1 := by omega
  have e5 : a.w.c.ms.length - 1 - (a.w.c.ms.length - 2 - j + 1) = j := by omega
  have e6 : a.w.c.ms.length - 1 - (j + 1) = a.w.c.ms.length - 2 - j := by omega
  have e7 : decide (i = a.w.c.ms.length - 2 - j) = true := by rw [decide_eq_true_eq]; exact h
  have e8 : decide (a.w.c.ms.length - 2 - j <= i) = true := by rw [decide_eq_true_eq]; omega
  rw [e7]
  simp only [nrB, e2, e3, e4, e5, cond_true, cond_false, bkM, e6, e8]
 ·have e1 : decide (a.w.c.ms.length - 1 - (j + 1) <= i) = decide (a.w.c.ms.length - 1 - j <= i) := by rw [decide_eq_decide]; omega
  simp only [nrB, h, e1, decide_false, cond_false]
theorem CXA (a : DkS) (h : a.l.length = a.w.c.ms.length /\ 1 <= a.w.c.ms.length /\ a.w.c.ms.length <= 40) : CRO a := by
 obtain ⟨hl, h1, h2⟩ := h
 have e1 : wr ((a.w.c.ms.length : Int) - 1) = ((a.w.c.ms.length - 1 : Nat) : Int) := by unfold wr; rw [CP (by omega) (by omega)]; omega
 have e2 : IntKind.i64.wrap ((a.w.c.ms.length : Int) - 1) = ((a.w.c.ms.length - 1 : Nat) : Int) := e1
 have gl : (KX a.w).length = a.w.c.ms.length - 1 := rng_length _ _
 have gg : ∀ {j : Nat}, j < a.w.c.ms.length - 1 -> gD (KX a.w) j = DZ a.w j := λ hj => BK _ _ _ hj
 have lo : ∀ k, (DZ a.w k).lo = IntKind.i64.wrap (a.w.c.p.lo * IntKind.i64.wrap ((gD a.w.c.ms (k + 1)).pl - (gD a.w.c.ms k).pl)) := λ _ => rfl
 have hi1 : ∀ k, a.w.sp k = true -> (DZ a.w k).hi = 200000000 := λ k h => by unfold DZ; rw [h]; rfl
 have hi0 : ∀ k, a.w.sp k = false -> (DZ a.w k).hi = IntKind.i64.wrap (a.w.c.p.hi * IntKind.i64.wrap ((gD a.w.c.ms (k + 1)).pl - (gD a.w.c.ms k).pl)) := λ k h => by unfold DZ; rw [h]; rfl
 have ws : ∀ {k : Nat}, k < 40 -> IntKind.i64.wrap ((k : Int) + 1) = ((k + 1 : Nat) : Int) := λ h => FE (by omega)
 rw [CVT]; delta BPB dR BMF BSY BMZ FI FJ FH FK FL ASP D7 BCB AZO BAZ Ue zE uC AVU BFW ATV Lw AVC St BBZ AWC Ww BHJ Ob DE BFO DG H7 BEW BIG BCE ASX AZA AYQ AYH ASA BEU BBM Do EV EL EO EP EJ EW AYL CK z_nar_52 ATM B6 AVP BES BBG Ug BDK CX NH BFQ ARP BAH xA wO ARH BEY KK BBX Xa uB AYW G0 Rw AVH BAY AZU AXX An BBL xX I4 Ah AVV Dh BHF ARU AXN BHE uD yQ yU Vx AZV BEZ BAF BGX ASF DT fN AGH AAR AGI AGW Z3 Q9 ACR aW cJ Ce QJ Dw AJU ADY AIL ABQ aL AKJ O2 ADT; simp only [CC, eq_self, implies_true, forall_const]; simp only [e1, e2, gl, hl]
 refine ⟨by omega, ⟨⟨default, trivial⟩, ⟨λ h0 => ?_, λ h0 => ⟨default, by omega⟩⟩, λ k hk => ⟨λ hlt => ?_, λ hge => ⟨default, by omega, Nat.le_refl _, λ j hj => by rw [gg hj]; exact ⟨rfl, rfl⟩⟩⟩⟩, ⟨default, trivial⟩, ⟨0, ⟨rfl, λ i hi => ?_⟩, Nat.zero_le _⟩, λ k hk => ⟨λ hlt => ?_, λ hge => ⟨⟨0, ⟨?_, λ i hi => ?_⟩, Nat.zero_le _⟩, λ j hj => ⟨λ hlt => ?_, λ hlt => ?_⟩⟩⟩⟩
 ·simp only [ws (show (0 : Nat) < 40 by omega), Int.toNat_natCast]
  refine ⟨by omega, by omega, by omega, λ h => ⟨by simp, 1, ⟨rfl, rfl, rfl, λ i hi => ?_⟩, by omega, by omega⟩, λ h => ⟨by simp, 1, ⟨rfl, rfl, rfl, λ i hi => ?_⟩, by omega, by omega⟩⟩
  ·obtain rfl : i = 0 := by omega
   exact ⟨lo 0, hi1 0 h⟩
  ·obtain rfl : i = 0 := by omega
   exact ⟨lo 0, hi0 0 h⟩
 ·simp only [ws (show k < 40 by omega), Int.toNat_natCast]
  refine ⟨by omega, by omega, by omega, λ h => ⟨⟨by omega, (λ h => by cases h), by omega, by omega⟩, k + 1, ⟨rfl, rfl, rfl, λ i hi => ?_⟩, by omega, by omega⟩, λ h => ⟨⟨by omega, (λ h => by cases h), by omega, by omega⟩, k + 1, ⟨rfl, rfl, rfl, λ i hi => ?_⟩, by omega, by omega⟩⟩
  ·by_cases q : i < k
   ·simp only [q, decide_true, cond_true, and_self]
   ·obtain rfl : i = k := by omega
    simp only [q, decide_false, cond_false]
    exact ⟨lo i, hi1 i h⟩
  ·by_cases q : i < k
   ·simp only [q, decide_true, cond_true, and_self]
   ·obtain rfl : i = k := by omega
    simp only [q, decide_false, cond_false]
    exact ⟨lo i, hi0 i h⟩
 ·by_cases q : i = 0
  ·subst q; exact ⟨rfl, rfl⟩
  ·have : ¬ i <= 0 := by omega
   simp only [nrF, this, decide_false, cond_false, and_self]
 ·simp only [ws (show k < 40 by omega)]
  refine ⟨by omega, ⟨by omega, by omega, by omega, by omega, λ i hi => by rw [BK _ _ _ hi]; exact ⟨rfl, rfl⟩, by omega, by omega⟩, k + 1, ⟨rfl, λ i hi => ?_⟩, by omega, by omega⟩
  have e := CFP a (k := k) (i := i) (by omega) (by omega)
  rw [gg (by omega), e, hl]; exact ⟨rfl, rfl⟩
 ·rw [CP (by omega) (by omega)]; omega
 ·obtain rfl : k = a.w.c.ms.length - 1 := by omega
  have q1 : decide (i <= a.w.c.ms.length - 1) = true := by rw [decide_eq_true_eq]; omega
  unfold nrB nrF; rw [q1]
  by_cases q : a.w.c.ms.length - 1 - 0 <= i
  ·have q2 : a.w.c.ms.length - 1 - i = 0 := by omega
   have q3 : i = a.w.c.ms.length - 1 := by omega
   simp only [q, decide_true, cond_true, q2, bkM]; rw [<- q3]; exact ⟨rfl, rfl⟩
  ·simp only [q, decide_false, cond_false, cond_true, and_self]
 ·have g0 : (a.w.c.ms.length : Int) - 2 - j = ((a.w.c.ms.length - 2 - j : Nat) : Int) := by omega
  have g1 : IntKind.i64.wrap (((a.w.c.ms.length - 2 - j : Nat) : Int) + 1) = ((a.w.c.ms.length - 2 - j + 1 : Nat) : Int) := ws (by omega)
  simp only [g0, g1, Int.toNat_natCast]
  refine ⟨⟨by omega, by omega, by omega, by omega, by omega, by omega, λ i hi => by rw [BK _ _ _ hi]; exact ⟨rfl, rfl⟩, by omega, by omega⟩, j + 1, ⟨?_, λ i hi => ?_⟩, by omega, by omega⟩
  ·rw [CP (by omega) (by omega)]; omega
  ·have e := CJN a (j := j) (i := i) hl (by omega) (by omega)
   rw [gg (by omega), e, hl]; exact ⟨rfl, rfl⟩
 ·have q : j = a.w.c.ms.length - 1 := by omega
  have eq1 : ∀ i, i < a.w.c.ms.length -> gD (KF a.w a.l) i = nrB a j i := λ i hi => by
   unfold KF; rw [BK _ _ _ (by omega), hl]
   have q2 : decide (a.w.c.ms.length - 1 - j <= i) = true := by rw [decide_eq_true_eq]; omega
   unfold nrB; rw [q2]; rfl
  have nl : (KF a.w a.l).length = a.w.c.ms.length := by unfold KF; rw [rng_length, hl]
  refine ⟨⟨λ i hi => by rw [BK _ _ _ hi]; exact ⟨rfl, rfl⟩, λ i hi => by rw [BK _ _ _ hi]; exact ⟨rfl, rfl⟩, by omega⟩, nl, Nat.le_refl _, λ i hi => by rw [eq1 i (by omega)]; exact ⟨rfl, rfl⟩, ?_⟩
  congr 1
  exact BZT (by rw [nl, rng_length]) λ i hi => by rw [eq1 i (by omega), BK _ _ _ (by omega)]
theorem BZY : AL Try.prog TR (C_nar.spec dDkS) := KV C_nar CPX [] [2016] BUL (λ _ => by kernel_rfl) (λ _ => AD CII (AD CBK (AD COF (AD CUI AI)))) (λ a h => CXA a h) (λ a => CQJ gA (CSA a) rfl rfl AI BWV (by kernel_rfl) (by kernel_rfl)) _
end Go.Bal
