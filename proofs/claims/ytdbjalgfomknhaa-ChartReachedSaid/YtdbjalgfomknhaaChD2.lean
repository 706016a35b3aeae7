/- Package chart: times are narrowed. -/
import Derived.Test.YtdbjalgfomknhaaChD1
set_option linter.unusedVariables false
set_option linter.unusedSimpArgs false
namespace Go.Bal
open Go Go.Sym Go.Proofs
def C_gaps : Ctr := { ro := [100, 101], α := Dk, xs := λ _ => [.bptr 100 0], L := λ w => dkL w, val := λ _ => .fn (.func LW) [] [.bptr 0 0], keep := λ w => dkK w ++ [(0, .live (.box [.bptr 100 0]))] }
def DBB : Ann := { ann 4 [] with E := [100, 101] }
def DHI (w : Dk) : Prop := BA Try.prog DBB CWC (AL CWC) (C_gaps.xs w) (AG (C_gaps.L w)) (C_gaps.val w) (C_gaps.keep w) [(0, 1000)] []
theorem DJD (w : Dk) : (DHI w) = (w.c.p.lo = w.c.p.lo /\ w.c.p.hi = w.c.p.hi /\ w.c.base = w.c.base /\ w.c.scale = w.c.scale /\ w.c.off = w.c.off /\ w.c.ms.length = w.c.ms.length /\ (∀ (i : Nat), i < w.c.ms.length -> (gD
 w.c.ms i).pl = (gD w.c.ms i).pl /\ (gD w.c.ms i).ht = (gD w.c.ms i).ht) /\ w.c.ns.length = w.c.ns.length /\ (∀ (i : Nat), i < w.c.ns.length -> (gD w.c.ns i).mi = (gD w.c.ns i).mi /\ (gD w.c.ns i).t.lo = (gD w.c.ns i).t.lo /\
 (gD w.c.ns i).t.hi = (gD w.c.ns i).t.hi /\ (gD w.c.ns i).s.lo = (gD w.c.ns i).s.lo /\ (gD w.c.ns i).s.hi = (gD w.c.ns i).s.hi) /\ (∀ (i : Nat), i < 40 -> w.sp i = w.sp i) /\ AO = AO /\ (∀ (n : Int), hasN w.c.ns n = hasN
 w.c.ns n) /\ (∀ (n : Int), w.st n = w.st n) /\ ∀ (n : Int), (ntOf w.c.ns n).mi = (ntOf w.c.ns n).mi /\ (ntOf w.c.ns n).t.lo = (ntOf w.c.ns n).t.lo /\ (ntOf w.c.ns n).t.hi = (ntOf w.c.ns n).t.hi /\ (ntOf w.c.ns n).s.lo = (ntOf
 w.c.ns n).s.lo /\ (ntOf w.c.ns n).s.hi = (ntOf w.c.ns n).s.hi) := by kernel_rfl
theorem AEB : AN Try.prog AWB (C_gaps.spec Dh) := MB C_gaps (λ _ => DBB) [(0, 1000)] [] DKK (λ _ => by kernel_rfl) (λ _ => AI) (λ (w : Dk) _ => by
 show DHI w; rw [DJD]; simp) (λ _ => OS rfl rfl) _
def farM (c : Cht) (g : Nat) : Int := wr ((gD c.ms (g + 1)).pl - (gD c.ms g).pl)
def BM (w : Dk) (g : Nat) : Span := ⟨wr (w.c.p.lo * farM w.c g), bif w.sp g then 200000000 else wr (w.c.p.hi * farM w.c g)⟩
def EL (w : Dk) : List Span := AF (w.c.ms.length - 1) λ g => BM w g
structure LIS where
 l : List Span
 k : Int
 s : Span
def upd1 (l : List Span) (k : Int) (s : Span) (i : Nat) : Span := bif decide (i = k.toNat) then Ql (gD l k.toNat) s else gD l i
def lkR (n : Nat) (f : Nat -> Span) : List (Nat × HCell) := [(100, .live (.box [.own 101 2 0 n])), (101, .live (.row 2 n λ i => CH (f i)))]
def C_nar1 : Ctr := { ro := [100], α := LIS, xs := λ a => [.int a.k, .d (CH a.s), .bptr 100 0], L := λ a => [(100, .box [.own 101 2 0 a.l.length]), (101, rowS a.l)], val := λ _ => .d (.tup []), keep := λ a => lkR a.l.length (upd1 a.l a.k a.s), pre := λ a => [0 <= a.k /\ a.k < a.l.length] }
def DCN : List AVal -> Heap -> Option (LIS × List (Nat × Nat) × List Nat)
 | [.d k, .d s, .bptr id _], H => match H id with
  | .live (.box [.own j _ _ _]) => match H j with
   | .live (.row _ n g) => some (⟨AF n λ i => RS (g i), BV k, RS s⟩, [(100, id), (101, j)], [])
   | _ => none
  | _ => none
 | _, _ => none
def DDB : Ann := { ann 15 [(Gx, C_com.spec CRK)] with E := [100, 101] }
def DBQ (a : LIS) : Prop := BA Try.prog DDB CSZ (AL CSZ) (C_nar1.xs a) (AG (C_nar1.L a)) (C_nar1.val a) (C_nar1.keep a) [] []
theorem DJC (a : LIS) : (DBQ a) = (((0 <= a.k /\ a.k < (↑a.l.length : Int)) /\ 0 + a.k.toNat < a.l.length /\ (gD a.l (0 + a.k.toNat)).lo = (gD a.l (0 + a.k.toNat)).lo /\ (gD a.l (0 + a.k.toNat)).hi = (gD a.l (0 +
 a.k.toNat)).hi /\ (AF 1 λ (i : Nat) => a.s).length = 1 /\ 1 <= 1 /\ (∀ (j : Nat), j < (AF 1 λ (i : Nat) => a.s).length -> (gD (AF 1 λ (i : Nat) => a.s) j).lo = a.s.lo /\ (gD (AF 1 λ (i : Nat) => a.s) j).hi =
 a.s.hi) /\ true = true /\ (0 <= a.k /\ a.k < (↑a.l.length : Int)) /\ (0 + a.k.toNat).succ.le a.l.length) /\ 0 = 0 /\ a.l.length = a.l.length /\ a.l.length = a.l.length /\ ∀ (i : Nat), i < a.l.length -> ((upd1 a.l a.k a.s i).lo =
 bif decide (i = 0 + a.k.toNat) then (comM (SL.mk (gD a.l (0 + a.k.toNat)) (AF 1 λ (i : Nat) => a.s))).lo else (gD a.l i).lo) /\ (upd1 a.l a.k a.s i).hi = bif decide (i = 0 + a.k.toNat) then (comM (SL.mk (gD a.l (0 +
 a.k.toNat)) (AF 1 λ (i : Nat) => a.s))).hi else (gD a.l i).hi) := by kernel_rfl
theorem CXU : AN Try.prog AUZ (C_nar1.spec DCN) := MB C_nar1 (λ _ => DDB) [] [] DLI (λ _ => by kernel_rfl) (λ _ => AD CGC AI) (λ (a : LIS) h => by
 show DBQ a; rw [DJC]; simp only [AU, eq_self, implies_true, and_self, true_and, and_true, true_implies, forall_const, decide_eq_true_eq, decide_eq_false_iff_not, Int.toNat_natCast, dSpan_eSpan, dInt_eInt, AY, AW, AX, Nat.zero_add, Int.zero_sub, Nat.le_eq, Nat.succ_eq_add_one, Nat.add_one_le_iff, Bool.not_eq_true', Bool.not_eq_false', rng_length, AK, AJ]
 have h : 0 <= a.k /\ a.k < a.l.length := h
 have e : comM ⟨gD a.l a.k.toNat, AF 1 λ _ => a.s⟩ = Ql (gD a.l a.k.toNat) a.s := rfl
 refine ⟨⟨h, by omega, by omega, λ j hj => by rw [BD _ _ _ hj]; exact ⟨rfl, rfl⟩, h, by omega⟩, λ i hi => ?_⟩
 rw [e]; unfold upd1
 cases decide (i = a.k.toNat) <;> exact ⟨rfl, rfl⟩) (λ _ => OS rfl rfl) _
def addS (a s : Span) : Span := ⟨wr (a.lo + s.lo), wr (a.hi + s.hi)⟩
def subS (a s : Span) : Span := ⟨wr (a.lo - s.hi), wr (a.hi - s.lo)⟩
def fwM (l : List Span) (s : Nat -> Span) : Nat -> Span
 | 0 => gD l 0
 | g + 1 => Ql (gD l (g + 1)) (addS (fwM l s g) (s g))
def bkM (f s : Nat -> Span) (n : Nat) : Nat -> Span
 | 0 => f n
 | j + 1 => Ql (f (n - (j + 1))) (subS (bkM f s n j) (s (n - (j + 1))))
def CR (w : Dk) (l : List Span) : List Span := AF l.length λ i => bkM (fwM l (BM w)) (BM w) (l.length - 1) (l.length - 1 - i)
structure DkS where
 w : Dk
 l : List Span
def dDkS : List AVal -> Heap -> Option (DkS × List (Nat × Nat) × List Nat)
 | [.bptr id _, y], H => match rX H id, Db y H with
  | some (w, q), some (l, f) => some (⟨w, l⟩, [(100, id), (101, q)], f)
  | _, _ => none
 | _, _ => none
def C_nar : Ctr := { ro := [100, 101], α := DkS, xs := λ a => [.bptr 100 0, .d (AT a.l)], L := λ a => dkL a.w, val := λ a => .tup [.d (AT (CR a.w a.l)), .bool ((CR a.w a.l).all DZ)], keep := λ a => dkK a.w, pre := λ a => [a.l.length = a.w.c.ms.length /\ 1 <= a.w.c.ms.length /\ a.w.c.ms.length <= 40] }
def nrH (a : DkS) (f : Nat -> Span) (p : AVal) : List (Nat × HCell) := dkK a.w ++ [(2016, .live (.row 2 a.l.length λ i => CH (f i))), (2032, .live (.box [.own 2016 2 0 a.l.length])), (3000, .live (.box [p]))]
def gpS (a : DkS) (l k : Nat) : List (Nat × AVal) := [(0, .fn (.yield l) [] []), (1, .bptr 4016 0), (12, .int (wr ((a.w.c.ms.length : Int) - 1))), (13, .int k)]
def gpB : Nat × HCell := (4016, .live (.box [.bptr 100 0]))
def gp1n (a : DkS) (l : Nat) : Shape := { α := One, dflt := default, T := λ _ => ⟨gpS a l 0, nrH a (gD a.l) (.d FL) ++ [gpB]⟩, inv := λ _ => True, meas := λ _ => 60 }
def gp1o (a : DkS) (l : Nat) : Shape := { α := Nat, dflt := 0, T := λ k => ⟨gpS a l k, nrH a (gD a.l) (.own 302 2 0 k) ++ [gpB, (302, .live (.row 2 k λ i => CH (BM a.w i)))]⟩, inv := λ k => 1 <= k /\ k <= a.w.c.ms.length - 1, meas := λ k => 50 - k, again := [(302, 6048)] }
noncomputable def DDR (a : DkS) : IterAnn := { fn := RY, code := AL RY, live := [6, 7], ann := { base := λ id => 100000 + 1000 * (id + 1), Γ := Sym.look [], E := [100, 101, 2016, 2032, 3000, 4016], n := 66, inner := λ gs id => if id = 1 then some [gp1n a (gs.getD 0 0), gp1o a (gs.getD 0 0)] else none } }
def nr6T (a : DkS) : One -> ST := λ _ => ⟨[(6, .bptr 2032 0), (7, .bptr 3000 0)], nrH a (gD a.l) (.d (AT (EL a.w)))⟩
def nr6 (a : DkS) (z : List Nat) : Shape := { α := One, dflt := default, T := nr6T a, inv := λ _ => True, meas := λ _ => 0, ffz := z }
def nr7 (a : DkS) : Shape := { α := One, dflt := default, T := λ _ => ⟨[(6, .bptr 2032 0), (7, .bptr 3000 0), (10, .fn (.func AUZ) [] [.bptr 2032 0])], nrH a (gD a.l) (.d (AT (EL a.w)))⟩, inv := λ _ => True, meas := λ _ => 0 }
def tS (a : DkS) (k i : Nat) : Span := bif decide (i <= k) then fwM a.l (BM a.w) i else gD a.l i
def Qm (a : DkS) (j i : Nat) : Span := bif decide (a.w.c.ms.length - 1 - j <= i) then bkM (fwM a.l (BM a.w)) (BM a.w) (a.w.c.ms.length - 1) (a.w.c.ms.length - 1 - i) else fwM a.l (BM a.w) i
def nr8 (a : DkS) : Shape := { α := Nat, dflt := 0, T := λ k => ⟨[(6, .bptr 2032 0), (7, .bptr 3000 0), (10, .fn (.func AUZ) [] [.bptr 2032 0]), (25, .d (AT (EL a.w))), (26, .int (EL a.w).length), (27, .int k)], nrH a (tS a k) (.d (AT (EL a.w)))⟩, inv := λ k => k <= a.w.c.ms.length - 1, meas := λ k => 50 - k }
def nr13 (a : DkS) : Shape := { α := Nat, dflt := 0, T := λ j => ⟨[(6, .bptr 2032 0), (7, .bptr 3000 0), (10, .fn (.func AUZ) [] [.bptr 2032 0]), (13, .int ((a.w.c.ms.length : Int) - 2 - j))], nrH a (Qm a j) (.d (AT (EL a.w)))⟩, inv := λ j => j <= a.w.c.ms.length - 1, meas := λ j => 50 - j }
noncomputable def CYS (a : DkS) : Ann := { ann 92 [(AIA, C_clo.spec dSs1), (AWB, C_gaps.spec Dh), (AUZ, C_nar1.spec DCN), (n_eS, C4SnO.spec DMM)] with E := [100, 101], mt := λ id => id == 5, iter := λ g => if g = LW then some (DDR a) else none, loops := λ id => if id = 8 then some [nr8 a] else if id = 13 then some [nr13 a] else none, cut := λ id => if id = 6 then some [nr6 a [], nr6 a [302]] else if id = 7 then some [nr7 a] else none }
def DOR (a : DkS) : Prop := BA Try.prog (CYS a) XU (AL XU) (C_nar.xs a) (AG (C_nar.L a)) (C_nar.val a) (C_nar.keep a) [] [2016]
abbrev CES (a : DkS) : List Span := AF a.l.length λ (i : Nat) => gD a.l i
abbrev fF (a : DkS) : Nat := (CES a).length
abbrev CLT (a : DkS) (i : Nat) : Span := gD (CES a) i
abbrev CLL (a : DkS) (i : Nat) : Int := (CLT a i).lo
abbrev CPM (a : DkS) (i : Nat) : Int := (CLT a i).hi
abbrev GY (a : DkS) : Prop := a.w.c.p.lo = a.w.c.p.lo
abbrev GZ (a : DkS) : Prop := a.w.c.p.hi = a.w.c.p.hi
abbrev GW (a : DkS) : Prop := a.w.c.base = a.w.c.base
abbrev GU (a : DkS) : Prop := a.w.c.scale = a.w.c.scale
abbrev GX (a : DkS) : Prop := a.w.c.off = a.w.c.off
abbrev CBW (a : DkS) : List Mk := AF a.w.c.ms.length λ (i : Nat) => gD a.w.c.ms i
abbrev AGK (a : DkS) : Nat := (CBW a).length
abbrev BVJ (a : DkS) (i : Nat) : Mk := gD (CBW a) i
abbrev CCF (a : DkS) (i : Nat) : Int := (BVJ a i).pl
abbrev BOB (a : DkS) (i : Nat) : Int := (BVJ a i).ht
abbrev Sz (a : DkS) : List Nt := AF a.w.c.ns.length λ (i : Nat) => gD a.w.c.ns i
abbrev AAA (a : DkS) : Nat := (Sz a).length
abbrev AGC (a : DkS) (i : Nat) : Nt := gD (Sz a) i
abbrev CAL (a : DkS) (i : Nat) : Int := (AGC a i).mi
abbrev BNF (a : DkS) (i : Nat) : Span := (AGC a i).t
abbrev CAG (a : DkS) (i : Nat) : Int := (BNF a i).lo
abbrev bO (a : DkS) (i : Nat) : Int := (gD a.w.c.ns i).t.lo
abbrev BVN (a : DkS) (i : Nat) : Int := (BNF a i).hi
abbrev dH (a : DkS) (i : Nat) : Int := (gD a.w.c.ns i).t.hi
abbrev BYD (a : DkS) (i : Nat) : Span := (AGC a i).s
abbrev BWR (a : DkS) (i : Nat) : Int := (BYD a i).lo
abbrev Ta (a : DkS) (i : Nat) : Int := (gD a.w.c.ns i).s.lo
abbrev BUT (a : DkS) (i : Nat) : Int := (BYD a i).hi
abbrev bV (a : DkS) (i : Nat) : Int := (gD a.w.c.ns i).s.hi
abbrev EJ (a : DkS) : Prop := ∀ (i : Nat), i < (40 : Nat) -> a.w.sp i = a.w.sp i
abbrev BSR (a : DkS) (n : Int) : Bool := hasN (Sz a) n
abbrev EK (a : DkS) : Prop := ∀ (n : Int), a.w.st n = a.w.st n
abbrev ACO (a : DkS) (n : Int) : Nt := ntOf (Sz a) n
abbrev CBF (a : DkS) (n : Int) : Int := (ACO a n).mi
abbrev BZO (a : DkS) (n : Int) : Span := (ACO a n).t
abbrev BVR (a : DkS) (n : Int) : Int := (BZO a n).lo
abbrev BRD (a : DkS) (n : Int) : Int := (BZO a n).hi
abbrev BWT (a : DkS) (n : Int) : Span := (ACO a n).s
abbrev BQV (a : DkS) (n : Int) : Int := (BWT a n).lo
abbrev BNS (a : DkS) (n : Int) : Int := (BWT a n).hi
abbrev BWI (i : Nat) (a : DkS) : Prop := i < a.w.c.ms.length
abbrev BTK (i : Nat) (a : DkS) : Prop := i < a.w.c.ns.length
abbrev CBM (a : DkS) : Int := (↑a.w.c.ms.length : Int) - (1 : Int)
abbrev Fz (a : DkS) : Int := wr (CBM a)
abbrev FT (a : DkS) : Prop := a.w.c.ms.length = a.w.c.ms.length
abbrev FX (a : DkS) : Prop := ∀ (i : Nat), BWI i a -> (gD a.w.c.ms i).pl = (gD a.w.c.ms i).pl /\ (gD a.w.c.ms i).ht = (gD a.w.c.ms i).ht
abbrev GI (a : DkS) : Prop := a.w.c.ns.length = a.w.c.ns.length
abbrev GG (a : DkS) : Prop := ∀ (i : Nat), BTK i a -> (gD a.w.c.ns i).mi = (gD a.w.c.ns i).mi /\ bO a i = bO a i /\ dH a i = dH a i /\ Ta a i = Ta a i /\ bV a i = bV
 a i
abbrev GC (a : DkS) : Prop := ∀ (n : Int), hasN a.w.c.ns n = hasN a.w.c.ns n
abbrev FV (a : DkS) : Prop := ∀ (n : Int), (ntOf a.w.c.ns n).mi = (ntOf a.w.c.ns n).mi /\ (ntOf a.w.c.ns n).t.lo = (ntOf a.w.c.ns n).t.lo /\ (ntOf a.w.c.ns n).t.hi = (ntOf a.w.c.ns n).t.hi /\ (ntOf a.w.c.ns n).s.lo =
 (ntOf a.w.c.ns n).s.lo /\ (ntOf a.w.c.ns n).s.hi = (ntOf a.w.c.ns n).s.hi
abbrev BYQ (a : DkS) : Prop := a.l.length = fF a
abbrev CU : Prop := (0 : Nat) = (0 : Nat)
abbrev z_nar_52 : Int := IntKind.i64.wrap ((↑(0 : Nat) : Int) + (1 : Int))
abbrev CBQ : Prop := (0 : Int) <= (↑(0 : Nat) : Int)
abbrev AIF : Prop := (0 : Nat) < (1 : Nat)
abbrev BSC : Prop := (2 : Nat) = (2 : Nat)
abbrev BXE : Prop := (1 : Nat) <= (1 : Nat) /\ (AIF -> BSC)
abbrev BSD : Prop := (True /\ ((0 : Nat) < (0 : Nat) -> (0 : Nat) = (2 : Nat))) /\ BXE /\ (true = true -> AIF) /\ (1 : Nat) <= (9223372036854775807 : Nat) /\ (16 : Nat) <= (140737488355328 : Nat)
abbrev Ti (a : DkS) : Prop := Fz a = Fz a
abbrev CCR (a : Nat) : Prop := (↑a : Int) = z_nar_52
abbrev DX (a : DkS) : Prop := a.l.length = a.l.length
abbrev PV (a : DkS) : Prop := ∀ (i : Nat), i < a.l.length -> (gD a.l i).lo = (gD a.l i).lo /\ (gD a.l i).hi = (gD a.l i).hi
abbrev BQY (a : DkS) : Int := IntKind.i64.wrap ((gD a.w.c.ms z_nar_52.toNat).pl - (gD a.w.c.ms (0 : Nat)).pl)
abbrev CBL (a : DkS) (i : Nat) : Prop := (BM a.w i).lo = IntKind.i64.wrap (a.w.c.p.lo * BQY a)
abbrev BVS (a : DkS) : Nat := a.w.c.ms.length - (1 : Nat)
abbrev Z6 (a : Nat) (a1 : DkS) : Prop := (1 : Nat) <= a /\ a <= BVS a1
abbrev AJG (a : Nat) : Nat := (50 : Nat) - a
abbrev BUJ (a : Nat) (a1 : DkS) : Prop := Z6 a a1 /\ AJG a < (60 : Nat)
abbrev BZC (a : DkS) : Prop := (EL a.w).length = (0 : Nat)
abbrev MA (a : Nat) : Int := IntKind.i64.wrap ((↑a : Int) + (1 : Int))
abbrev BQW (a : Nat) : Prop := (0 : Int) <= MA a
abbrev aU (a : Nat) : Prop := (0 : Int) <= (↑a : Int)
abbrev AAJ (a : Nat) : Nat := a + (1 : Nat)
abbrev BOK (a : Nat) : Prop := (a = a /\ ((0 : Nat) < a -> BSC)) /\ BXE /\ (false = true -> AIF) /\ AAJ a <= (9223372036854775807 : Nat) /\ AAJ a * (16 : Nat) <= (140737488355328 : Nat)
abbrev AGP (a : Nat) (a1 : Nat) : Prop := (↑a : Int) = MA a1
abbrev Yn (a : Nat) (a1 : Nat) : Prop := a = AAJ a1
abbrev BMY (a : DkS) (a1 : Nat) : Int := IntKind.i64.wrap ((gD a.w.c.ms (MA a1).toNat).pl - (gD a.w.c.ms a1).pl)
abbrev BZK (a : DkS) (i : Nat) (a1 : Nat) : Prop := (BM a.w i).lo = bif decide (i < a1) then (BM a.w i).lo else IntKind.i64.wrap (a.w.c.p.lo * BMY a a1)
abbrev BOW (a : Nat) (a1 : Nat) : Prop := AJG a < AJG a1
abbrev BSS (a : Nat) (a1 : DkS) (a2 : Nat) : Prop := Z6 a a1 /\ BOW a a2
abbrev Eg (a : Nat) : Nat := (0 : Nat) + a
abbrev BPP (a : DkS) (j : Nat) : Span := BM a.w (Eg j)
abbrev ACY (a : DkS) : Prop := (EL a.w).length = (EL a.w).length
abbrev AHW (a : DkS) : Prop := ∀ (i : Nat), i < (EL a.w).length -> (gD (EL a.w) i).lo = (gD (EL a.w) i).lo /\ (gD (EL a.w) i).hi = (gD (EL a.w) i).hi
abbrev Do (a : DkS) : Prop := CU /\ DX a /\ ACY a /\ AHW a
abbrev BRR (a : DkS) : Prop := (↑(EL a.w).length : Int) = (↑(EL a.w).length : Int)
abbrev Fu (a : Nat) (a1 : DkS) : Prop := a.le (BVS a1)
abbrev CAN (a : Nat) (a1 : DkS) : Prop := (↑a : Int) < (↑(EL a1.w).length : Int)
abbrev BTU (a : Nat) (a1 : DkS) : Prop := aU a /\ (↑a : Int) < (↑a1.l.length : Int)
abbrev BMJ (a : Nat) (a1 : DkS) : Prop := Eg a < a1.l.length
abbrev BNE (a : DkS) (a1 : Nat) : Span := tS a a1 (Eg a1)
abbrev AHY (a : DkS) (a1 : Nat) : Int := IntKind.i64.wrap ((BNE a a1).lo + (gD (EL a.w) a1).lo)
abbrev AAD (a : DkS) (a1 : Nat) : Int := IntKind.i64.wrap ((BNE a a1).hi + (gD (EL a.w) a1).hi)
abbrev AES (a : DkS) (a1 : Nat) : List Span := AF a.l.length λ (i : Nat) => tS a a1 i
abbrev Wk (a : DkS) (a1 : Nat) : Nat := (AES a a1).length
abbrev CBD (a : DkS) (a1 : Nat) : Prop := Wk a a1 = a.l.length
abbrev BQQ (a : DkS) (a1 : Nat) (i : Nat) : Span := gD (AES a a1) i
abbrev CBA (a : DkS) (a1 : Nat) : Prop := a.l.length = Wk a a1
abbrev BOZ (a : DkS) (a1 : Nat) (i : Nat) : Span := upd1 (AES a a1) (MA a1) (Span.mk (AHY a a1) (AAD a a1)) i
abbrev BTT (a : Nat) (a1 : DkS) (a2 : Nat) : Prop := Fu a a1 /\ BOW a a2
abbrev FF (a : DkS) (a1 : Nat) : Int := (↑a.w.c.ms.length : Int) - (2 : Int) - (↑a1 : Int)
abbrev pT (a : DkS) (a1 : Nat) : Int := IntKind.i64.wrap (FF a a1 + (1 : Int))
abbrev ARF (a : DkS) (a1 : Nat) : Prop := (0 : Int) <= pT a a1 /\ pT a a1 < (↑a.l.length : Int)
abbrev BFT (a : DkS) (a1 : Nat) : Nat := (0 : Nat) + (pT a a1).toNat
abbrev ALN (a : DkS) (a1 : Nat) : Prop := BFT a a1 < a.l.length
abbrev AZR (a : DkS) (a1 : Nat) : Prop := (0 : Int) <= FF a a1
abbrev AZH (a : DkS) (a1 : Nat) : Prop := AZR a a1 /\ FF a a1 < (↑(EL a.w).length : Int)
abbrev ALP (a : DkS) (a1 : Nat) : Span := Qm a a1 (BFT a a1)
abbrev AZB (a : DkS) (a1 : Nat) : Span := gD (EL a.w) (FF a a1).toNat
abbrev oH (a : DkS) (a1 : Nat) : Int := IntKind.i64.wrap ((ALP a a1).lo - (AZB a a1).hi)
abbrev jR (a : DkS) (a1 : Nat) : Int := IntKind.i64.wrap ((ALP a a1).hi - (AZB a a1).lo)
abbrev Du (a : DkS) (a1 : Nat) : List Span := AF a.l.length λ (i : Nat) => Qm a a1 i
abbrev VI (a : DkS) (a1 : Nat) : Nat := (Du a a1).length
abbrev Dl (a : DkS) (a1 : Nat) : Prop := VI a a1 = a.l.length
abbrev AOT (a : DkS) (a1 : Nat) (i : Nat) : Span := gD (Du a a1) i
abbrev BFJ (a : DkS) (a1 : Nat) (i : Nat) : Int := (AOT a a1 i).lo
abbrev BBP (a : DkS) (a1 : Nat) (i : Nat) : Int := (AOT a a1 i).hi
abbrev ALU (a : DkS) (a1 : Nat) : Prop := ∀ (i : Nat), i < VI a a1 -> BFJ a a1 i = (Qm a a1 i).lo /\ BBP a a1 i = (Qm a a1 i).hi
abbrev mO (a : DkS) (a1 : Nat) : Prop := a.l.length = VI a a1
abbrev AOZ (a : DkS) (a1 : Nat) (i : Nat) : Span := upd1 (Du a a1) (FF a a1) (Span.mk (oH a a1) (jR a a1)) i
abbrev AYQ (a : DkS) (a1 : Nat) (j : Nat) : Span := Qm a a1 (Eg j)
abbrev AYI (a : DkS) : Prop := ∀ (a_1 : One), True -> (∃ (a_3 : One), (GY a /\ GZ a /\ GW a /\ GU a /\ GX a /\ FT a /\ FX a /\ GI a /\ GG a /\ EJ a /\ AO = AO /\
 GC a /\ EK a /\ FV a /\ DX a /\ PV a /\ Do a) /\ True) /\ ∀ (a_3 : One), True -> (∃ (a_5 : Nat), (ACY a /\ AHW a /\ BRR a /\ (↑a_5 : Int) = (0 : Int) /\ GY a /\ GZ a /\
 GW a /\ GU a /\ GX a /\ FT a /\ FX a /\ GI a /\ GG a /\ EJ a /\ AO = AO /\ GC a /\ EK a /\ FV a /\ DX a /\ (∀ (i : Nat), i < a.l.length -> (tS a a_5 i).lo = (gD
 a.l i).lo /\ (tS a a_5 i).hi = (gD a.l i).hi) /\ Do a) /\ Fu a_5 a) /\ ∀ (a_5 : Nat), Fu a_5 a -> bif decide (CAN a_5 a) then (aU a_5 /\ CAN a_5 a) /\ (BTU a_5 a /\ BMJ a_5 a /\
 BTU a_5 a /\ BMJ a_5 a /\ MA a_5 = MA a_5 /\ AHY a a_5 = AHY a a_5 /\ AAD a a_5 = AAD a a_5 /\ CU /\ CBD a a_5 /\ CBD a a_5 /\ (∀ (i : Nat), i < Wk a a_5 ->
 (BQQ a a_5 i).lo = (tS a a_5 i).lo /\ (BQQ a a_5 i).hi = (tS a a_5 i).hi) /\ CU /\ CBA a a_5 /\ BQW a_5 /\ MA a_5 < (↑(Wk a a_5) : Int)) /\ ∃ (a_7 : Nat), (ACY a /\ AHW a /\
 BRR a /\ AGP a_7 a_5 /\ GY a /\ GZ a /\ GW a /\ GU a /\ GX a /\ FT a /\ FX a /\ GI a /\ GG a /\ EJ a /\ AO = AO /\ GC a /\ EK a /\ FV a /\ CBA a
 a_5 /\ (∀ (i : Nat), i < a.l.length -> (tS a a_7 i).lo = (BOZ a a_5 i).lo /\ (tS a a_7 i).hi = (BOZ a a_5 i).hi) /\ Do a) /\ BTT a_7 a a_5 else (∃ (a_7 : Nat), (FF a a_7 = IntKind.i64.wrap
 ((↑(EL a.w).length : Int) - (1 : Int)) /\ GY a /\ GZ a /\ GW a /\ GU a /\ GX a /\ FT a /\ FX a /\ GI a /\ GG a /\ EJ a /\ AO = AO /\ GC a /\ EK a /\ FV a /\
 DX a /\ (∀ (i : Nat), i < a.l.length -> (Qm a a_7 i).lo = (tS a a_5 i).lo /\ (Qm a a_7 i).hi = (tS a a_5 i).hi) /\ Do a) /\ Fu a_7 a) /\ ∀ (a_7 : Nat), Fu a_7 a -> bif decide (FF a a_7 >= (0 :
 Int)) then (ARF a a_7 /\ ALN a a_7 /\ AZH a a_7 /\ ARF a a_7 /\ ALN a a_7 /\ AZH a a_7 /\ FF a a_7 = FF a a_7 /\ oH a a_7 = oH a a_7 /\ jR a a_7 = jR
 a a_7 /\ CU /\ Dl a a_7 /\ Dl a a_7 /\ ALU a a_7 /\ CU /\ mO a a_7 /\ AZR a a_7 /\ FF a a_7 < (↑(VI a a_7) : Int)) /\ ∃ (a_9 : Nat), (FF a a_9 = IntKind.i64.wrap
 (FF a a_7 - (1 : Int)) /\ GY a /\ GZ a /\ GW a /\ GU a /\ GX a /\ FT a /\ FX a /\ GI a /\ GG a /\ EJ a /\ AO = AO /\ GC a /\ EK a /\ FV a /\ mO a
 a_7 /\ (∀ (i : Nat), i < a.l.length -> (Qm a a_9 i).lo = (AOZ a a_7 i).lo /\ (Qm a a_9 i).hi = (AOZ a a_7 i).hi) /\ Do a) /\ BTT a_9 a a_7 else (CU /\ Dl a a_7 /\ Dl a a_7 /\
 ALU a a_7 /\ mO a a_7 /\ (∀ (i : Nat), i < a.l.length -> (Qm a a_7 i).lo = BFJ a a_7 i /\ (Qm a a_7 i).hi = BBP a a_7 i) /\ VI a a_7 < (4611686018427387904 : Nat) /\ True) /\ (CR a.w
 a.l).length = a.l.length /\ (0 : Nat) + a.l.length <= a.l.length /\ (∀ (j : Nat), j < (CR a.w a.l).length -> (gD (CR a.w a.l) j).lo = (AYQ a a_7 j).lo /\ (gD (CR a.w a.l) j).hi = (AYQ a a_7 j).hi) /\ (CR
 a.w a.l).all DZ = (Du a a_7).all DZ /\ GY a /\ GZ a /\ GW a /\ GU a /\ GX a /\ FT a /\ FX a /\ GI a /\ GG a /\ EJ a /\ AO = AO /\ GC a /\ EK a /\ FV a
theorem DRF (a : DkS) : (DOR a) = ((fF a = a.l.length /\ (∀ (i : Nat), i < fF a -> CLL a i = (gD a.l i).lo /\ CPM a i = (gD a.l i).hi) /\ (0 : Nat) < fF a /\ fF a < (1073741824 : Nat)) /\
 ((GY a /\ GZ a /\ GW a /\ GU a /\ GX a /\ AGK a = a.w.c.ms.length /\ (∀ (i : Nat), i < AGK a -> CCF a i = (gD a.w.c.ms i).pl /\ BOB a i = (gD a.w.c.ms i).ht) /\ AAA a =
 a.w.c.ns.length /\ (∀ (i : Nat), i < AAA a -> CAL a i = (gD a.w.c.ns i).mi /\ CAG a i = bO a i /\ BVN a i = dH a i /\ BWR a i = Ta a i /\ BUT a i = bV a i) /\ EJ a /\
 AO = AO /\ (∀ (n : Int), BSR a n = hasN a.w.c.ns n) /\ EK a /\ (∀ (n : Int), CBF a n = (ntOf a.w.c.ns n).mi /\ BVR a n = (ntOf a.w.c.ns n).t.lo /\ BRD a n = (ntOf a.w.c.ns n).t.hi /\ BQV a n =
 (ntOf a.w.c.ns n).s.lo /\ BNS a n = (ntOf a.w.c.ns n).s.hi) /\ GY a /\ GZ a /\ GW a /\ GU a /\ GX a /\ a.w.c.ms.length = AGK a /\ (∀ (i : Nat), BWI i a -> (gD a.w.c.ms i).pl = CCF a i
 /\ (gD a.w.c.ms i).ht = BOB a i) /\ a.w.c.ns.length = AAA a /\ (∀ (i : Nat), BTK i a -> (gD a.w.c.ns i).mi = CAL a i /\ bO a i = CAG a i /\ dH a i = BVN a i /\ Ta a i = BWR a
 i /\ bV a i = BUT a i) /\ EJ a /\ AO = AO /\ (∀ (n : Int), hasN a.w.c.ns n = BSR a n) /\ EK a /\ ∀ (n : Int), (ntOf a.w.c.ns n).mi = CBF a n /\ (ntOf a.w.c.ns n).t.lo = BVR a n /\ (ntOf
 a.w.c.ns n).t.hi = BRD a n /\ (ntOf a.w.c.ns n).s.lo = BQV a n /\ (ntOf a.w.c.ns n).s.hi = BNS a n) /\ ∀ (l : Nat), (∃ (a_1 : One), (Fn.yield l = Fn.yield l /\ Fz a = IntKind.i64.wrap (CBM a) /\
 Int.ofNat (0 : Nat) = Int.ofNat (0 : Nat) /\ GY a /\ GZ a /\ GW a /\ GU a /\ GX a /\ FT a /\ FX a /\ GI a /\ GG a /\ EJ a /\ AO = AO /\ GC a /\ EK a /\ FV a /\
 BYQ a /\ (∀ (i : Nat), i < a.l.length -> (gD a.l i).lo = CLL a i /\ (gD a.l i).hi = CPM a i) /\ CU /\ BYQ a /\ CU /\ ∀ (i : Nat), i < (0 : Nat) -> false = false) /\ True) /\ (∀ (a_1 : One), True -> bif
 decide ((↑(0 : Nat) : Int) < Fz a) then (((0 : Int) <= z_nar_52 /\ z_nar_52 < (↑a.w.c.ms.length : Int)) /\ CBQ /\ (↑(0 : Nat) : Int) < (↑a.w.c.ms.length : Int)) /\ (CBQ /\ (↑(0 : Nat) : Int) < (↑(40 : Nat) :
 Int)) /\ (Nat.succ (0 : Nat)).le (40 : Nat) /\ bif a.w.sp (0 : Nat) then l = l /\ BSD /\ ∃ (a_3 : Nat), (Fn.yield l = Fn.yield l /\ Ti a /\ CCR a_3 /\ GY a /\ GZ a /\ GW a /\ GU a /\ GX a /\
 FT a /\ FX a /\ GI a /\ GG a /\ EJ a /\ AO = AO /\ GC a /\ EK a /\ FV a /\ DX a /\ PV a /\ CU /\ DX a /\ CU /\ a_3 = (1 : Nat) /\ a_3 = (1 : Nat) /\ ∀ (i :
 Nat), i < a_3 -> CBL a i /\ (BM a.w i).hi = (200000000 : Int)) /\ BUJ a_3 a else l = l /\ BSD /\ ∃ (a_3 : Nat), (Fn.yield l = Fn.yield l /\ Ti a /\ CCR a_3 /\ GY a /\ GZ a /\ GW a /\
 GU a /\ GX a /\ FT a /\ FX a /\ GI a /\ GG a /\ EJ a /\ AO = AO /\ GC a /\ EK a /\ FV a /\ DX a /\ PV a /\ CU /\ DX a /\ CU /\ a_3 = (1 : Nat) /\
 a_3 = (1 : Nat) /\ ∀ (i : Nat), i < a_3 -> CBL a i /\ (BM a.w i).hi = IntKind.i64.wrap (a.w.c.p.hi * BQY a)) /\ BUJ a_3 a else ∃ (a_3 : One), (GY a /\ GZ a /\ GW a /\ GU a /\ GX a /\
 FT a /\ FX a /\ GI a /\ GG a /\ EJ a /\ AO = AO /\ GC a /\ EK a /\ FV a /\ DX a /\ PV a /\ CU /\ DX a /\ BZC a /\ BZC a) /\ True) /\ ∀ (a_1 : Nat),
 Z6 a_1 a -> bif decide ((↑a_1 : Int) < Fz a) then ((BQW a_1 /\ MA a_1 < (↑a.w.c.ms.length : Int)) /\ aU a_1 /\ (↑a_1 : Int) < (↑a.w.c.ms.length : Int)) /\ (aU a_1 /\ (↑a_1 : Int) < (↑(40 :
 Nat) : Int)) /\ a_1.succ.le (40 : Nat) /\ bif a.w.sp a_1 then l = l /\ BOK a_1 /\ ∃ (a_3 : Nat), (Fn.yield l = Fn.yield l /\ Ti a /\ AGP a_3 a_1 /\ GY a /\ GZ a /\ GW a /\ GU a /\ GX a /\
 FT a /\ FX a /\ GI a /\ GG a /\ EJ a /\ AO = AO /\ GC a /\ EK a /\ FV a /\ DX a /\ PV a /\ CU /\ DX a /\ CU /\ Yn a_3 a_1 /\ Yn a_3 a_1 /\ ∀ (i
 : Nat), i < a_3 -> BZK a i a_1 /\ (BM a.w i).hi = bif decide (i < a_1) then (BM a.w i).hi else (200000000 : Int)) /\ BSS a_3 a a_1 else l = l /\ BOK a_1 /\ ∃ (a_3 : Nat), (Fn.yield l = Fn.yield l /\ Ti
 a /\ AGP a_3 a_1 /\ GY a /\ GZ a /\ GW a /\ GU a /\ GX a /\ FT a /\ FX a /\ GI a /\ GG a /\ EJ a /\ AO = AO /\ GC a /\ EK a /\ FV a /\ DX a /\ PV
 a /\ CU /\ DX a /\ CU /\ Yn a_3 a_1 /\ Yn a_3 a_1 /\ ∀ (i : Nat), i < a_3 -> BZK a i a_1 /\ (BM a.w i).hi = bif decide (i < a_1) then (BM a.w i).hi else IntKind.i64.wrap (a.w.c.p.hi *
 BMY a a_1)) /\ BSS a_3 a a_1 else ∃ (a_3 : One), (GY a /\ GZ a /\ GW a /\ GU a /\ GX a /\ FT a /\ FX a /\ GI a /\ GG a /\ EJ a /\ AO = AO /\ GC a /\ EK a
 /\ FV a /\ DX a /\ PV a /\ CU /\ DX a /\ (EL a.w).length = a_1 /\ Eg a_1 <= a_1 /\ ∀ (j : Nat), j < (EL a.w).length -> (gD (EL a.w) j).lo = (BPP a j).lo /\ (gD (EL a.w) j).hi =
 (BPP a j).hi) /\ True) /\ AYI a /\ AYI a) := by kernel_rfl
theorem CXM {L : Nat} {f : Nat -> Span} {k : Int} {s : Span} {i : Nat} (hi : i < L) (hk : k.toNat < L) : upd1 (AF L f) k s i = bif decide (i = k.toNat) then Ql (f k.toNat) s else f i := by
 unfold upd1; rw [BD _ _ _ hi, BD _ _ _ hk]
theorem CRT (a : DkS) {k i : Nat} (hk : k + 1 < a.l.length) (hi : i < a.l.length) : tS a (k + 1) i = upd1 (AF a.l.length λ i => tS a k i) ((k + 1 : Nat) : Int) (addS (tS a k k) (BM a.w k)) i := by
 rw [CXM hi (by show k + 1 < _; exact hk)]
 show _ = bif decide (i = k + 1) then Ql (tS a k (k + 1)) _ else _
 by_cases h : i = k + 1
 ·subst h
  simp only [tS, Nat.le_refl, decide_true, cond_true, show ¬ k + 1 <= k by omega, decide_false, cond_false]
  rfl
 ·have e : decide (i <= k + 1) = decide (i <= k) := by rw [decide_eq_decide]; omega
  simp only [tS, h, e, decide_false, cond_false]
theorem CQP (a : DkS) {j i : Nat} (hl : a.l.length = a.w.c.ms.length) (hj : j + 2 <= a.l.length) (hi : i < a.l.length) : Qm a (j + 1) i = upd1 (AF a.l.length λ i => Qm a j i) ((a.w.c.ms.length - 2 - j : Nat) : Int) (subS (Qm a j (a.w.c.ms.length - 2 - j + 1)) (BM a.w (a.w.c.ms.length - 2 - j))) i := by
 rw [CXM hi (by show a.w.c.ms.length - 2 - j < _; omega)]
 show _ = bif decide (i = a.w.c.ms.length - 2 - j) then Ql (Qm a j (a.w.c.ms.length - 2 - j)) _ else _
 by_cases h : i = a.w.c.ms.length - 2 - j
 ·have e1 : decide (a.w.c.ms.length - 1 - (j + 1) <= i) = true := by rw [decide_eq_true_eq]; omega
  have e2 : decide (a.w.c.ms.length - 1 - j <= a.w.c.ms.length - 2 - j) = false := by rw [decide_eq_false_iff_not]; omega
  have e3 : decide (a.w.c.ms.length - 1 - j <= a.w.c.ms.length - 2 - j + 1) = true := by rw [decide_eq_true_eq]; omega
  have e4 : a.w.c.ms.length - 1 - i = j + 1 := by omega
  have e5 : a.w.c.ms.length - 1 - (a.w.c.ms.length - 2 - j + 1) = j := by omega
  have e6 : a.w.c.ms.length - 1 - (j + 1) = a.w.c.ms.length - 2 - j := by omega
  have e7 : decide (i = a.w.c.ms.length - 2 - j) = true := by rw [decide_eq_true_eq]; exact h
  have e8 : decide (a.w.c.ms.length - 2 - j <= i) = true := by rw [decide_eq_true_eq]; omega
  rw [e7]
  simp only [Qm, e2, e3, e4, e5, cond_true, cond_false, bkM, e6, e8]
 ·have e1 : decide (a.w.c.ms.length - 1 - (j + 1) <= i) = decide (a.w.c.ms.length - 1 - j <= i) := by rw [decide_eq_decide]; omega
  simp only [Qm, h, e1, decide_false, cond_false]
theorem DUF (a : DkS) (h : a.l.length = a.w.c.ms.length /\ 1 <= a.w.c.ms.length /\ a.w.c.ms.length <= 40) : DOR a := by
 obtain ⟨hl, h1, h2⟩ := h
 have e1 : wr ((a.w.c.ms.length : Int) - 1) = ((a.w.c.ms.length - 1 : Nat) : Int) := by unfold wr; rw [EN (by omega) (by omega)]; omega
 have e2 : IntKind.i64.wrap ((a.w.c.ms.length : Int) - 1) = ((a.w.c.ms.length - 1 : Nat) : Int) := e1
 have gl : (EL a.w).length = a.w.c.ms.length - 1 := rng_length _ _
 have gg : ∀ {j : Nat}, j < a.w.c.ms.length - 1 -> gD (EL a.w) j = BM a.w j := λ hj => BD _ _ _ hj
 have lo : ∀ k, (BM a.w k).lo = IntKind.i64.wrap (a.w.c.p.lo * IntKind.i64.wrap ((gD a.w.c.ms (k + 1)).pl - (gD a.w.c.ms k).pl)) := λ _ => rfl
 have hi1 : ∀ k, a.w.sp k = true -> (BM a.w k).hi = 200000000 := λ k h => by unfold BM; rw [h]; rfl
 have hi0 : ∀ k, a.w.sp k = false -> (BM a.w k).hi = IntKind.i64.wrap (a.w.c.p.hi * IntKind.i64.wrap ((gD a.w.c.ms (k + 1)).pl - (gD a.w.c.ms k).pl)) := λ k h => by unfold BM; rw [h]; rfl
 have ws : ∀ {k : Nat}, k < 40 -> IntKind.i64.wrap ((k : Int) + 1) = ((k + 1 : Nat) : Int) := λ h => FM (by omega)
 rw [DRF]; delta CES fF CLT CLL CPM GY GZ GW GU GX CBW AGK BVJ CCF BOB Sz AAA AGC CAL BNF CAG bO BVN dH BYD BWR Ta BUT bV EJ BSR EK ACO CBF BZO BVR BRD BWT BQV BNS BWI BTK CBM Fz FT FX GI GG GC FV BYQ CU z_nar_52 CBQ AIF BSC BXE BSD Ti CCR DX PV BQY CBL BVS Z6 AJG BUJ BZC MA BQW aU AAJ BOK AGP Yn BMY BZK BOW BSS Eg BPP ACY AHW Do BRR Fu CAN BTU BMJ BNE AHY AAD AES Wk CBD BQQ CBA BOZ BTT FF pT ARF BFT ALN AZR AZH ALP AZB oH jR Du VI Dl AOT BFJ BBP ALU mO AOZ AYQ AYI; simp only [AU, eq_self, implies_true, and_self, true_and, and_true, true_implies, forall_const, decide_eq_true_eq, decide_eq_false_iff_not, Int.toNat_natCast, dSpan_eSpan, dInt_eInt, AY, AW, AX, Nat.zero_add, Int.zero_sub, Nat.le_eq, Nat.succ_eq_add_one, Nat.add_one_le_iff, Bool.not_eq_true', Bool.not_eq_false', rng_length, AK, AJ]; simp only [e1, e2, gl, hl]
 refine ⟨by omega, ⟨⟨default, trivial⟩, ⟨λ h0 => ?_, λ h0 => ⟨default, by omega⟩⟩, λ k hk => ⟨λ hlt => ?_, λ hge => ⟨default, by omega, Nat.le_refl _, λ j hj => by rw [gg hj]; exact ⟨rfl, rfl⟩⟩⟩⟩, ⟨default, trivial⟩, ⟨0, ⟨rfl, λ i hi => ?_⟩, Nat.zero_le _⟩, λ k hk => ⟨λ hlt => ?_, λ hge => ⟨⟨0, ⟨?_, λ i hi => ?_⟩, Nat.zero_le _⟩, λ j hj => ⟨λ hlt => ?_, λ hlt => ?_⟩⟩⟩⟩
 ·simp only [ws (show (0 : Nat) < 40 by omega), Int.toNat_natCast]
  refine ⟨by omega, by omega, by omega, λ h => ⟨by simp, 1, ⟨rfl, rfl, rfl, λ i hi => ?_⟩, by omega, by omega⟩, λ h => ⟨by simp, 1, ⟨rfl, rfl, rfl, λ i hi => ?_⟩, by omega, by omega⟩⟩
  ·obtain rfl : i = 0 := by omega
   exact ⟨lo 0, hi1 0 h⟩
  ·obtain rfl : i = 0 := by omega
   exact ⟨lo 0, hi0 0 h⟩
 ·simp only [ws (show k < 40 by omega), Int.toNat_natCast]
  refine ⟨by omega, by omega, by omega, λ h => ⟨⟨by omega, (λ h => by cases h), by omega, by omega⟩, k + 1, ⟨rfl, rfl, rfl, λ i hi => ?_⟩, by omega, by omega⟩, λ h => ⟨⟨by omega, (λ h => by cases h), by omega, by omega⟩, k + 1, ⟨rfl, rfl, rfl, λ i hi => ?_⟩, by omega, by omega⟩⟩
  ·by_cases q : i < k
   ·simp only [q, decide_true, cond_true, and_self]
   ·obtain rfl : i = k := by omega
    simp only [q, decide_false, cond_false]
    exact ⟨lo i, hi1 i h⟩
  ·by_cases q : i < k
   ·simp only [q, decide_true, cond_true, and_self]
   ·obtain rfl : i = k := by omega
    simp only [q, decide_false, cond_false]
    exact ⟨lo i, hi0 i h⟩
 ·by_cases q : i = 0
  ·subst q; exact ⟨rfl, rfl⟩
  ·have : ¬ i <= 0 := by omega
   simp only [tS, this, decide_false, cond_false, and_self]
 ·simp only [ws (show k < 40 by omega)]
  refine ⟨by omega, ⟨by omega, by omega, by omega, by omega, λ i hi => by rw [BD _ _ _ hi]; exact ⟨rfl, rfl⟩, by omega, by omega⟩, k + 1, ⟨rfl, λ i hi => ?_⟩, by omega, by omega⟩
  have e := CRT a (k := k) (i := i) (by omega) (by omega)
  rw [gg (by omega), e, hl]; exact ⟨rfl, rfl⟩
 ·rw [EN (by omega) (by omega)]; omega
 ·obtain rfl : k = a.w.c.ms.length - 1 := by omega
  have q1 : decide (i <= a.w.c.ms.length - 1) = true := by rw [decide_eq_true_eq]; omega
  unfold Qm tS; rw [q1]
  by_cases q : a.w.c.ms.length - 1 - 0 <= i
  ·have q2 : a.w.c.ms.length - 1 - i = 0 := by omega
   have q3 : i = a.w.c.ms.length - 1 := by omega
   simp only [q, decide_true, cond_true, q2, bkM]; rw [<- q3]; exact ⟨rfl, rfl⟩
  ·simp only [q, decide_false, cond_false, cond_true, and_self]
 ·have g0 : (a.w.c.ms.length : Int) - 2 - j = ((a.w.c.ms.length - 2 - j : Nat) : Int) := by omega
  have g1 : IntKind.i64.wrap (((a.w.c.ms.length - 2 - j : Nat) : Int) + 1) = ((a.w.c.ms.length - 2 - j + 1 : Nat) : Int) := ws (by omega)
  simp only [g0, g1, Int.toNat_natCast]
  refine ⟨⟨by omega, by omega, by omega, by omega, by omega, by omega, λ i hi => by rw [BD _ _ _ hi]; exact ⟨rfl, rfl⟩, by omega, by omega⟩, j + 1, ⟨?_, λ i hi => ?_⟩, by omega, by omega⟩
  ·rw [EN (by omega) (by omega)]; omega
  ·have e := CQP a (j := j) (i := i) hl (by omega) (by omega)
   rw [gg (by omega), e, hl]; exact ⟨rfl, rfl⟩
 ·have q : j = a.w.c.ms.length - 1 := by omega
  have eq1 : ∀ i, i < a.w.c.ms.length -> gD (CR a.w a.l) i = Qm a j i := λ i hi => by
   unfold CR; rw [BD _ _ _ (by omega), hl]
   have q2 : decide (a.w.c.ms.length - 1 - j <= i) = true := by rw [decide_eq_true_eq]; omega
   unfold Qm; rw [q2]; rfl
  have nl : (CR a.w a.l).length = a.w.c.ms.length := by unfold CR; rw [rng_length, hl]
  refine ⟨⟨λ i hi => by rw [BD _ _ _ hi]; exact ⟨rfl, rfl⟩, λ i hi => by rw [BD _ _ _ hi]; exact ⟨rfl, rfl⟩, by omega⟩, nl, Nat.le_refl _, λ i hi => by rw [eq1 i (by omega)]; exact ⟨rfl, rfl⟩, ?_⟩
  congr 1
  exact CUZ (by rw [nl, rng_length]) λ i hi => by rw [eq1 i (by omega), BD _ _ _ (by omega)]
theorem BYL : AN Try.prog HN (C_nar.spec dDkS) := MB C_nar CYS [] [2016] BHT (λ _ => by kernel_rfl) (λ _ => AD CVO (AD AEB (AD CXU (AD DID AI)))) (λ a h => DUF a h) (λ a => CQB LW (DDR a) rfl rfl AI cE (by kernel_rfl) (by kernel_rfl)) _
end Go.Bal
