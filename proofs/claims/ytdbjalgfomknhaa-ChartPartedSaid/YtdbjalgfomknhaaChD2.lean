/- Package chart: times are narrowed. -/
import Derived.Test.YtdbjalgfomknhaaChD1
set_option linter.unusedVariables false
set_option linter.unusedSimpArgs false
namespace Go.Bal
open Go Go.Sym Go.Proofs
def C_gaps : Ctr := { ro := [100, 101], α := Dk, xs := λ _ => [.bptr 100 0], L := λ w => dkL w, val := λ _ => .fn (.func Yk) [] [.bptr 0 0], keep := λ w => dkK w ++ [(0, .live (.box [.bptr 100 0]))] }
def CLO : Ann := { ann 4 [] with E := [100, 101] }
def CJN (w : Dk) : Prop := AZ Try.prog CLO BZA (AL BZA) (C_gaps.xs w) (AG (C_gaps.L w)) (C_gaps.val w) (C_gaps.keep w) [(0, 1000)] []
theorem CQM (w : Dk) : (CJN w) = (w.c.p.lo = w.c.p.lo /\ w.c.p.hi = w.c.p.hi /\ w.c.base = w.c.base /\ w.c.scale = w.c.scale /\ w.c.off = w.c.off /\ w.c.ms.length = w.c.ms.length /\ (∀ (i : Nat), i < w.c.ms.length -> (gD
 w.c.ms i).pl = (gD w.c.ms i).pl /\ (gD w.c.ms i).ht = (gD w.c.ms i).ht) /\ w.c.ns.length = w.c.ns.length /\ (∀ (i : Nat), i < w.c.ns.length -> (gD w.c.ns i).mi = (gD w.c.ns i).mi /\ (gD w.c.ns i).t.lo = (gD w.c.ns i).t.lo /\
 (gD w.c.ns i).t.hi = (gD w.c.ns i).t.hi /\ (gD w.c.ns i).s.lo = (gD w.c.ns i).s.lo /\ (gD w.c.ns i).s.hi = (gD w.c.ns i).s.hi) /\ (∀ (i : Nat), i < 40 -> w.sp i = w.sp i) /\ AT = AT /\ (∀ (n : Int), hasN w.c.ns n = hasN
 w.c.ns n) /\ (∀ (n : Int), w.st n = w.st n) /\ ∀ (n : Int), (ntOf w.c.ns n).mi = (ntOf w.c.ns n).mi /\ (ntOf w.c.ns n).t.lo = (ntOf w.c.ns n).t.lo /\ (ntOf w.c.ns n).t.hi = (ntOf w.c.ns n).t.hi /\ (ntOf w.c.ns n).s.lo = (ntOf
 w.c.ns n).s.lo /\ (ntOf w.c.ns n).s.hi = (ntOf w.c.ns n).s.hi) := by kernel_rfl
theorem CDT : AM Try.prog BOV (C_gaps.spec Z1) := LF C_gaps (λ _ => CLO) [(0, 1000)] [] COR (λ _ => by kernel_rfl) (λ _ => AJ) (λ (w : Dk) _ => by
 show CJN w; rw [CQM]; simp) (λ _ => NP rfl rfl) _
def farM (c : Cht) (g : Nat) : Int := wr ((gD c.ms (g + 1)).pl - (gD c.ms g).pl)
def FS (w : Dk) (g : Nat) : Span := ⟨wr (w.c.p.lo * farM w.c g), bif w.sp g then 200000000 else wr (w.c.p.hi * farM w.c g)⟩
def LG (w : Dk) : List Span := AE (w.c.ms.length - 1) λ g => FS w g
structure LIS where
 l : List Span
 k : Int
 s : Span
def upd1 (l : List Span) (k : Int) (s : Span) (i : Nat) : Span := bif decide (i = k.toNat) then eS (gD l k.toNat) s else gD l i
def lkR (n : Nat) (f : Nat -> Span) : List (Nat × HCell) := [(100, .live (.box [.own 101 2 0 n])), (101, .live (.row 2 n λ i => CL (f i)))]
def C_nar1 : Ctr := { ro := [100], α := LIS, xs := λ a => [.int a.k, .d (CL a.s), .bptr 100 0], L := λ a => [(100, .box [.own 101 2 0 a.l.length]), (101, rowS a.l)], val := λ _ => .d (.tup []), keep := λ a => lkR a.l.length (upd1 a.l a.k a.s), pre := λ a => [0 <= a.k /\ a.k < a.l.length] }
def CHY : List AVal -> Heap -> Option (LIS × List (Nat × Nat) × List Nat)
 | [.d k, .d s, .bptr id _], H => match H id with
  | .live (.box [.own j _ _ _]) => match H j with
   | .live (.row _ n g) => some (⟨AE n λ i => LI (g i), CK k, LI s⟩, [(100, id), (101, j)], [])
   | _ => none
  | _ => none
 | _, _ => none
def CII : Ann := { ann 15 [(tT, C_com.spec CML)] with E := [100, 101] }
def CKJ (a : LIS) : Prop := AZ Try.prog CII CCC (AL CCC) (C_nar1.xs a) (AG (C_nar1.L a)) (C_nar1.val a) (C_nar1.keep a) [] []
theorem CON (a : LIS) : (CKJ a) = (((0 <= a.k /\ a.k < (↑a.l.length : Int)) /\ 0 + a.k.toNat < a.l.length /\ (gD a.l (0 + a.k.toNat)).lo = (gD a.l (0 + a.k.toNat)).lo /\ (gD a.l (0 + a.k.toNat)).hi = (gD a.l (0 +
 a.k.toNat)).hi /\ (AE 1 λ (i : Nat) => a.s).length = 1 /\ 1 <= 1 /\ (∀ (j : Nat), j < (AE 1 λ (i : Nat) => a.s).length -> (gD (AE 1 λ (i : Nat) => a.s) j).lo = a.s.lo /\ (gD (AE 1 λ (i : Nat) => a.s) j).hi =
 a.s.hi) /\ true = true /\ (0 <= a.k /\ a.k < (↑a.l.length : Int)) /\ (0 + a.k.toNat).succ.le a.l.length) /\ 0 = 0 /\ a.l.length = a.l.length /\ a.l.length = a.l.length /\ ∀ (i : Nat), i < a.l.length -> ((upd1 a.l a.k a.s i).lo =
 bif decide (i = 0 + a.k.toNat) then (comM (SL.mk (gD a.l (0 + a.k.toNat)) (AE 1 λ (i : Nat) => a.s))).lo else (gD a.l i).lo) /\ (upd1 a.l a.k a.s i).hi = bif decide (i = 0 + a.k.toNat) then (comM (SL.mk (gD a.l (0 +
 a.k.toNat)) (AE 1 λ (i : Nat) => a.s))).hi else (gD a.l i).hi) := by kernel_rfl
theorem CPW : AM Try.prog AEY (C_nar1.spec CHY) := LF C_nar1 (λ _ => CII) [] [] COP (λ _ => by kernel_rfl) (λ _ => AC CKW AJ) (λ (a : LIS) h => by
 show CKJ a; rw [CON]; simp only [CC, eq_self, implies_true, forall_const]
 have h : 0 <= a.k /\ a.k < a.l.length := h
 have e : comM ⟨gD a.l a.k.toNat, AE 1 λ _ => a.s⟩ = eS (gD a.l a.k.toNat) a.s := rfl
 refine ⟨⟨h, by omega, by omega, λ j hj => by rw [BN _ _ _ hj]; exact ⟨rfl, rfl⟩, h, by omega⟩, λ i hi => ?_⟩
 rw [e]; unfold upd1
 cases decide (i = a.k.toNat) <;> exact ⟨rfl, rfl⟩) (λ _ => NP rfl rfl) _
def addS (a s : Span) : Span := ⟨wr (a.lo + s.lo), wr (a.hi + s.hi)⟩
def subS (a s : Span) : Span := ⟨wr (a.lo - s.hi), wr (a.hi - s.lo)⟩
def fwM (l : List Span) (s : Nat -> Span) : Nat -> Span
 | 0 => gD l 0
 | g + 1 => eS (gD l (g + 1)) (addS (fwM l s g) (s g))
def bkM (f s : Nat -> Span) (n : Nat) : Nat -> Span
 | 0 => f n
 | j + 1 => eS (f (n - (j + 1))) (subS (bkM f s n j) (s (n - (j + 1))))
def KR (w : Dk) (l : List Span) : List Span := AE l.length λ i => bkM (fwM l (FS w)) (FS w) (l.length - 1) (l.length - 1 - i)
structure DkS where
 w : Dk
 l : List Span
def dDkS : List AVal -> Heap -> Option (DkS × List (Nat × Nat) × List Nat)
 | [.bptr id _, y], H => match eY H id, XV y H with
  | some (w, q), some (l, f) => some (⟨w, l⟩, [(100, id), (101, q)], f)
  | _, _ => none
 | _, _ => none
def C_nar : Ctr := { ro := [100, 101], α := DkS, xs := λ a => [.bptr 100 0, .d (AX a.l)], L := λ a => dkL a.w, val := λ a => .tup [.d (AX (KR a.w a.l)), .bool ((KR a.w a.l).all IW)], keep := λ a => dkK a.w, pre := λ a => [a.l.length = a.w.c.ms.length /\ 1 <= a.w.c.ms.length /\ a.w.c.ms.length <= 40] }
def nrH (a : DkS) (f : Nat -> Span) (p : AVal) : List (Nat × HCell) := dkK a.w ++ [(2016, .live (.row 2 a.l.length λ i => CL (f i))), (2032, .live (.box [.own 2016 2 0 a.l.length])), (3000, .live (.box [p]))]
def gpS (a : DkS) (l k : Nat) : List (Nat × AVal) := [(0, .fn (.yield l) [] []), (1, .bptr 4016 0), (12, .int (wr ((a.w.c.ms.length : Int) - 1))), (13, .int k)]
def gpB : Nat × HCell := (4016, .live (.box [.bptr 100 0]))
def gp1n (a : DkS) (l : Nat) : Shape := { α := One, dflt := default, T := λ _ => ⟨gpS a l 0, nrH a (gD a.l) (.d GA) ++ [gpB]⟩, inv := λ _ => True, meas := λ _ => 60 }
def gp1o (a : DkS) (l : Nat) : Shape := { α := Nat, dflt := 0, T := λ k => ⟨gpS a l k, nrH a (gD a.l) (.own 302 2 0 k) ++ [gpB, (302, .live (.row 2 k λ i => CL (FS a.w i)))]⟩, inv := λ k => 1 <= k /\ k <= a.w.c.ms.length - 1, meas := λ k => 50 - k, again := [(302, 6048)] }
noncomputable def CRQ (a : DkS) : IterAnn := { fn := uB, code := AL uB, live := [6, 7], ann := { base := λ id => 100000 + 1000 * (id + 1), Γ := Sym.look [], E := [100, 101, 2016, 2032, 3000, 4016], n := 66, inner := λ gs id => if id = 1 then some [gp1n a (gs.getD 0 0), gp1o a (gs.getD 0 0)] else none } }
def nr6T (a : DkS) : One -> ST := λ _ => ⟨[(6, .bptr 2032 0), (7, .bptr 3000 0)], nrH a (gD a.l) (.d (AX (LG a.w)))⟩
def nr6 (a : DkS) (z : List Nat) : Shape := { α := One, dflt := default, T := nr6T a, inv := λ _ => True, meas := λ _ => 0, ffz := z }
def nr7 (a : DkS) : Shape := { α := One, dflt := default, T := λ _ => ⟨[(6, .bptr 2032 0), (7, .bptr 3000 0), (10, .fn (.func AEY) [] [.bptr 2032 0])], nrH a (gD a.l) (.d (AX (LG a.w)))⟩, inv := λ _ => True, meas := λ _ => 0 }
def nrF (a : DkS) (k i : Nat) : Span := bif decide (i <= k) then fwM a.l (FS a.w) i else gD a.l i
def nrB (a : DkS) (j i : Nat) : Span := bif decide (a.w.c.ms.length - 1 - j <= i) then bkM (fwM a.l (FS a.w)) (FS a.w) (a.w.c.ms.length - 1) (a.w.c.ms.length - 1 - i) else fwM a.l (FS a.w) i
def nr8 (a : DkS) : Shape := { α := Nat, dflt := 0, T := λ k => ⟨[(6, .bptr 2032 0), (7, .bptr 3000 0), (10, .fn (.func AEY) [] [.bptr 2032 0]), (25, .d (AX (LG a.w))), (26, .int (LG a.w).length), (27, .int k)], nrH a (nrF a k) (.d (AX (LG a.w)))⟩, inv := λ k => k <= a.w.c.ms.length - 1, meas := λ k => 50 - k }
def nr13 (a : DkS) : Shape := { α := Nat, dflt := 0, T := λ j => ⟨[(6, .bptr 2032 0), (7, .bptr 3000 0), (10, .fn (.func AEY) [] [.bptr 2032 0]), (13, .int ((a.w.c.ms.length : Int) - 2 - j))], nrH a (nrB a j) (.d (AX (LG a.w)))⟩, inv := λ j => j <= a.w.c.ms.length - 1, meas := λ j => 50 - j }
noncomputable def CTO (a : DkS) : Ann := { ann 92 [(tU, C_clo.spec dSs1), (BOV, C_gaps.spec Z1), (AEY, C_nar1.spec CHY), (n_eS, C4SnO.spec CSX)] with E := [100, 101], mt := λ id => id == 5, iter := λ g => if g = Yk then some (CRQ a) else none, loops := λ id => if id = 8 then some [nr8 a] else if id = 13 then some [nr13 a] else none, cut := λ id => if id = 6 then some [nr6 a [], nr6 a [302]] else if id = 7 then some [nr7 a] else none }
def CSD (a : DkS) : Prop := AZ Try.prog (CTO a) hG (AL hG) (C_nar.xs a) (AG (C_nar.L a)) (C_nar.val a) (C_nar.keep a) [] [2016]
abbrev BNU (a : DkS) : List Span := AE a.l.length λ (i : Nat) => gD a.l i
abbrev cY (a : DkS) : Nat := (BNU a).length
abbrev BSX (a : DkS) (i : Nat) : Span := gD (BNU a) i
abbrev BUO (a : DkS) (i : Nat) : Int := (BSX a i).lo
abbrev BTF (a : DkS) (i : Nat) : Int := (BSX a i).hi
abbrev FY (a : DkS) : Prop := a.w.c.p.lo = a.w.c.p.lo
abbrev FZ (a : DkS) : Prop := a.w.c.p.hi = a.w.c.p.hi
abbrev FW (a : DkS) : Prop := a.w.c.base = a.w.c.base
abbrev FX (a : DkS) : Prop := a.w.c.scale = a.w.c.scale
abbrev FV (a : DkS) : Prop := a.w.c.off = a.w.c.off
abbrev BGF (a : DkS) : List Mk := AE a.w.c.ms.length λ (i : Nat) => gD a.w.c.ms i
abbrev K3 (a : DkS) : Nat := (BGF a).length
abbrev AZB (a : DkS) (i : Nat) : Mk := gD (BGF a) i
abbrev ASV (a : DkS) (i : Nat) : Int := (AZB a i).pl
abbrev ARQ (a : DkS) (i : Nat) : Int := (AZB a i).ht
abbrev Wl (a : DkS) : List Nt := AE a.w.c.ns.length λ (i : Nat) => gD a.w.c.ns i
abbrev F8 (a : DkS) : Nat := (Wl a).length
abbrev G7 (a : DkS) (i : Nat) : Nt := gD (Wl a) i
abbrev BIX (a : DkS) (i : Nat) : Int := (G7 a i).mi
abbrev APY (a : DkS) (i : Nat) : Span := (G7 a i).t
abbrev AWK (a : DkS) (i : Nat) : Int := (APY a i).lo
abbrev Qt (a : DkS) (i : Nat) : Int := (gD a.w.c.ns i).t.lo
abbrev AYL (a : DkS) (i : Nat) : Int := (APY a i).hi
abbrev Wd (a : DkS) (i : Nat) : Int := (gD a.w.c.ns i).t.hi
abbrev ARJ (a : DkS) (i : Nat) : Span := (G7 a i).s
abbrev BFT (a : DkS) (i : Nat) : Int := (ARJ a i).lo
abbrev Mb (a : DkS) (i : Nat) : Int := (gD a.w.c.ns i).s.lo
abbrev BBK (a : DkS) (i : Nat) : Int := (ARJ a i).hi
abbrev Pe (a : DkS) (i : Nat) : Int := (gD a.w.c.ns i).s.hi
abbrev EA (a : DkS) : Prop := ∀ (i : Nat), i < (40 : Nat) -> a.w.sp i = a.w.sp i
abbrev AWA (a : DkS) (n : Int) : Bool := hasN (Wl a) n
abbrev DZ (a : DkS) : Prop := ∀ (n : Int), a.w.st n = a.w.st n
abbrev A3 (a : DkS) (n : Int) : Nt := ntOf (Wl a) n
abbrev BEL (a : DkS) (n : Int) : Int := (A3 a n).mi
abbrev ASR (a : DkS) (n : Int) : Span := (A3 a n).t
abbrev BGE (a : DkS) (n : Int) : Int := (ASR a n).lo
abbrev ATQ (a : DkS) (n : Int) : Int := (ASR a n).hi
abbrev AQQ (a : DkS) (n : Int) : Span := (A3 a n).s
abbrev AWF (a : DkS) (n : Int) : Int := (AQQ a n).lo
abbrev AVU (a : DkS) (n : Int) : Int := (AQQ a n).hi
abbrev AXJ (i : Nat) (a : DkS) : Prop := i < a.w.c.ms.length
abbrev BBJ (i : Nat) (a : DkS) : Prop := i < a.w.c.ns.length
abbrev AZF (a : DkS) : Int := (↑a.w.c.ms.length : Int) - (1 : Int)
abbrev Bg (a : DkS) : Int := wr (AZF a)
abbrev FC (a : DkS) : Prop := a.w.c.ms.length = a.w.c.ms.length
abbrev EY (a : DkS) : Prop := ∀ (i : Nat), AXJ i a -> (gD a.w.c.ms i).pl = (gD a.w.c.ms i).pl /\ (gD a.w.c.ms i).ht = (gD a.w.c.ms i).ht
abbrev FG (a : DkS) : Prop := a.w.c.ns.length = a.w.c.ns.length
abbrev FK (a : DkS) : Prop := ∀ (i : Nat), BBJ i a -> (gD a.w.c.ns i).mi = (gD a.w.c.ns i).mi /\ Qt a i = Qt a i /\ Wd a i = Wd a i /\ Mb a i = Mb a i /\ Pe a i = Pe
 a i
abbrev FB (a : DkS) : Prop := ∀ (n : Int), hasN a.w.c.ns n = hasN a.w.c.ns n
abbrev EW (a : DkS) : Prop := ∀ (n : Int), (ntOf a.w.c.ns n).mi = (ntOf a.w.c.ns n).mi /\ (ntOf a.w.c.ns n).t.lo = (ntOf a.w.c.ns n).t.lo /\ (ntOf a.w.c.ns n).t.hi = (ntOf a.w.c.ns n).t.hi /\ (ntOf a.w.c.ns n).s.lo =
 (ntOf a.w.c.ns n).s.lo /\ (ntOf a.w.c.ns n).s.hi = (ntOf a.w.c.ns n).s.hi
abbrev AVG (a : DkS) : Prop := a.l.length = cY a
abbrev DD : Prop := (0 : Nat) = (0 : Nat)
abbrev z_nar_52 : Int := IntKind.i64.wrap ((↑(0 : Nat) : Int) + (1 : Int))
abbrev ATY : Prop := (0 : Int) <= (↑(0 : Nat) : Int)
abbrev vZ : Prop := (0 : Nat) < (1 : Nat)
abbrev BDN : Prop := (2 : Nat) = (2 : Nat)
abbrev BFM : Prop := (1 : Nat) <= (1 : Nat) /\ (vZ -> BDN)
abbrev AYK : Prop := (True /\ ((0 : Nat) < (0 : Nat) -> (0 : Nat) = (2 : Nat))) /\ BFM /\ (true = true -> vZ) /\ (1 : Nat) <= (9223372036854775807 : Nat) /\ (16 : Nat) <= (140737488355328 : Nat)
abbrev Je (a : DkS) : Prop := Bg a = Bg a
abbrev AVX (a : Nat) : Prop := (↑a : Int) = z_nar_52
abbrev DT (a : DkS) : Prop := a.l.length = a.l.length
abbrev OC (a : DkS) : Prop := ∀ (i : Nat), i < a.l.length -> (gD a.l i).lo = (gD a.l i).lo /\ (gD a.l i).hi = (gD a.l i).hi
abbrev BHF (a : DkS) : Int := IntKind.i64.wrap ((gD a.w.c.ms z_nar_52.toNat).pl - (gD a.w.c.ms (0 : Nat)).pl)
abbrev BIU (a : DkS) (i : Nat) : Prop := (FS a.w i).lo = IntKind.i64.wrap (a.w.c.p.lo * BHF a)
abbrev BIZ (a : DkS) : Nat := a.w.c.ms.length - (1 : Nat)
abbrev wJ (a : Nat) (a1 : DkS) : Prop := (1 : Nat) <= a /\ a <= BIZ a1
abbrev L8 (a : Nat) : Nat := (50 : Nat) - a
abbrev BAE (a : Nat) (a1 : DkS) : Prop := wJ a a1 /\ L8 a < (60 : Nat)
abbrev ATV (a : DkS) : Prop := (LG a.w).length = (0 : Nat)
abbrev KO (a : Nat) : Int := IntKind.i64.wrap ((↑a : Int) + (1 : Int))
abbrev AQX (a : Nat) : Prop := (0 : Int) <= KO a
abbrev Qg (a : Nat) : Prop := (0 : Int) <= (↑a : Int)
abbrev B9 (a : Nat) : Nat := a + (1 : Nat)
abbrev ASZ (a : Nat) : Prop := (a = a /\ ((0 : Nat) < a -> BDN)) /\ BFM /\ (false = true -> vZ) /\ B9 a <= (9223372036854775807 : Nat) /\ B9 a * (16 : Nat) <= (140737488355328 : Nat)
abbrev xA (a : Nat) (a1 : Nat) : Prop := (↑a : Int) = KO a1
abbrev Sc (a : Nat) (a1 : Nat) : Prop := a = B9 a1
abbrev ASN (a : DkS) (a1 : Nat) : Int := IntKind.i64.wrap ((gD a.w.c.ms (KO a1).toNat).pl - (gD a.w.c.ms a1).pl)
abbrev AVC (a : DkS) (i : Nat) (a1 : Nat) : Prop := (FS a.w i).lo = bif decide (i < a1) then (FS a.w i).lo else IntKind.i64.wrap (a.w.c.p.lo * ASN a a1)
abbrev BAR (a : Nat) (a1 : Nat) : Prop := L8 a < L8 a1
abbrev BIT (a : Nat) (a1 : DkS) (a2 : Nat) : Prop := wJ a a1 /\ BAR a a2
abbrev ZY (a : Nat) : Nat := (0 : Nat) + a
abbrev AYC (a : DkS) (j : Nat) : Span := FS a.w (ZY j)
abbrev uG (a : DkS) : Prop := (LG a.w).length = (LG a.w).length
abbrev I9 (a : DkS) : Prop := ∀ (i : Nat), i < (LG a.w).length -> (gD (LG a.w) i).lo = (gD (LG a.w) i).lo /\ (gD (LG a.w) i).hi = (gD (LG a.w) i).hi
abbrev Cu (a : DkS) : Prop := DD /\ DT a /\ uG a /\ I9 a
abbrev ATP (a : DkS) : Prop := (↑(LG a.w).length : Int) = (↑(LG a.w).length : Int)
abbrev YT (a : Nat) (a1 : DkS) : Prop := a.le (BIZ a1)
abbrev ASF (a : Nat) (a1 : DkS) : Prop := (↑a : Int) < (↑(LG a1.w).length : Int)
abbrev BFP (a : Nat) (a1 : DkS) : Prop := Qg a /\ (↑a : Int) < (↑a1.l.length : Int)
abbrev BCM (a : Nat) (a1 : DkS) : Prop := ZY a < a1.l.length
abbrev BHD (a : DkS) (a1 : Nat) : Span := nrF a a1 (ZY a1)
abbrev vA (a : DkS) (a1 : Nat) : Int := IntKind.i64.wrap ((BHD a a1).lo + (gD (LG a.w) a1).lo)
abbrev J8 (a : DkS) (a1 : Nat) : Int := IntKind.i64.wrap ((BHD a a1).hi + (gD (LG a.w) a1).hi)
abbrev xI (a : DkS) (a1 : Nat) : List Span := AE a.l.length λ (i : Nat) => nrF a a1 i
abbrev Ju (a : DkS) (a1 : Nat) : Nat := (xI a a1).length
abbrev ATI (a : DkS) (a1 : Nat) : Prop := Ju a a1 = a.l.length
abbrev BCG (a : DkS) (a1 : Nat) (i : Nat) : Span := gD (xI a a1) i
abbrev BGR (a : DkS) (a1 : Nat) : Prop := a.l.length = Ju a a1
abbrev AVK (a : DkS) (a1 : Nat) (i : Nat) : Span := upd1 (xI a a1) (KO a1) (Span.mk (vA a a1) (J8 a a1)) i
abbrev BBY (a : Nat) (a1 : DkS) (a2 : Nat) : Prop := YT a a1 /\ BAR a a2
abbrev EO (a : DkS) (a1 : Nat) : Int := (↑a.w.c.ms.length : Int) - (2 : Int) - (↑a1 : Int)
abbrev aB (a : DkS) (a1 : Nat) : Int := IntKind.i64.wrap (EO a a1 + (1 : Int))
abbrev P1 (a : DkS) (a1 : Nat) : Prop := (0 : Int) <= aB a a1 /\ aB a a1 < (↑a.l.length : Int)
abbrev ADE (a : DkS) (a1 : Nat) : Nat := (0 : Nat) + (aB a a1).toNat
abbrev AFN (a : DkS) (a1 : Nat) : Prop := ADE a a1 < a.l.length
abbrev ACT (a : DkS) (a1 : Nat) : Prop := (0 : Int) <= EO a a1
abbrev X3 (a : DkS) (a1 : Nat) : Prop := ACT a a1 /\ EO a a1 < (↑(LG a.w).length : Int)
abbrev AGA (a : DkS) (a1 : Nat) : Span := nrB a a1 (ADE a a1)
abbrev AGL (a : DkS) (a1 : Nat) : Span := gD (LG a.w) (EO a a1).toNat
abbrev dU (a : DkS) (a1 : Nat) : Int := IntKind.i64.wrap ((AGA a a1).lo - (AGL a a1).hi)
abbrev Yh (a : DkS) (a1 : Nat) : Int := IntKind.i64.wrap ((AGA a a1).hi - (AGL a a1).lo)
abbrev Da (a : DkS) (a1 : Nat) : List Span := AE a.l.length λ (i : Nat) => nrB a a1 i
abbrev RL (a : DkS) (a1 : Nat) : Nat := (Da a a1).length
abbrev As (a : DkS) (a1 : Nat) : Prop := RL a a1 = a.l.length
abbrev ADP (a : DkS) (a1 : Nat) (i : Nat) : Span := gD (Da a a1) i
abbrev AIF (a : DkS) (a1 : Nat) (i : Nat) : Int := (ADP a a1 i).lo
abbrev AIK (a : DkS) (a1 : Nat) (i : Nat) : Int := (ADP a a1 i).hi
abbrev AAI (a : DkS) (a1 : Nat) : Prop := ∀ (i : Nat), i < RL a a1 -> AIF a a1 i = (nrB a a1 i).lo /\ AIK a a1 i = (nrB a a1 i).hi
abbrev Wu (a : DkS) (a1 : Nat) : Prop := a.l.length = RL a a1
abbrev T6 (a : DkS) (a1 : Nat) (i : Nat) : Span := upd1 (Da a a1) (EO a a1) (Span.mk (dU a a1) (Yh a a1)) i
abbrev AID (a : DkS) (a1 : Nat) (j : Nat) : Span := nrB a a1 (ZY j)
abbrev S4 (a : DkS) : Prop := ∀ (a_1 : One), True -> (∃ (a_3 : One), (FY a /\ FZ a /\ FW a /\ FX a /\ FV a /\ FC a /\ EY a /\ FG a /\ FK a /\ EA a /\ AT = AT /\
 FB a /\ DZ a /\ EW a /\ DT a /\ OC a /\ Cu a) /\ True) /\ ∀ (a_3 : One), True -> (∃ (a_5 : Nat), (uG a /\ I9 a /\ ATP a /\ (↑a_5 : Int) = (0 : Int) /\ FY a /\ FZ a /\
 FW a /\ FX a /\ FV a /\ FC a /\ EY a /\ FG a /\ FK a /\ EA a /\ AT = AT /\ FB a /\ DZ a /\ EW a /\ DT a /\ (∀ (i : Nat), i < a.l.length -> (nrF a a_5 i).lo = (gD
 a.l i).lo /\ (nrF a a_5 i).hi = (gD a.l i).hi) /\ Cu a) /\ YT a_5 a) /\ ∀ (a_5 : Nat), YT a_5 a -> bif decide (ASF a_5 a) then (Qg a_5 /\ ASF a_5 a) /\ (BFP a_5 a /\ BCM a_5 a /\
 BFP a_5 a /\ BCM a_5 a /\ KO a_5 = KO a_5 /\ vA a a_5 = vA a a_5 /\ J8 a a_5 = J8 a a_5 /\ DD /\ ATI a a_5 /\ ATI a a_5 /\ (∀ (i : Nat), i < Ju a a_5 ->
 (BCG a a_5 i).lo = (nrF a a_5 i).lo /\ (BCG a a_5 i).hi = (nrF a a_5 i).hi) /\ DD /\ BGR a a_5 /\ AQX a_5 /\ KO a_5 < (↑(Ju a a_5) : Int)) /\ ∃ (a_7 : Nat), (uG a /\ I9 a /\
 ATP a /\ xA a_7 a_5 /\ FY a /\ FZ a /\ FW a /\ FX a /\ FV a /\ FC a /\ EY a /\ FG a /\ FK a /\ EA a /\ AT = AT /\ FB a /\ DZ a /\ EW a /\ BGR a
 a_5 /\ (∀ (i : Nat), i < a.l.length -> (nrF a a_7 i).lo = (AVK a a_5 i).lo /\ (nrF a a_7 i).hi = (AVK a a_5 i).hi) /\ Cu a) /\ BBY a_7 a a_5 else (∃ (a_7 : Nat), (EO a a_7 = IntKind.i64.wrap
 ((↑(LG a.w).length : Int) - (1 : Int)) /\ FY a /\ FZ a /\ FW a /\ FX a /\ FV a /\ FC a /\ EY a /\ FG a /\ FK a /\ EA a /\ AT = AT /\ FB a /\ DZ a /\ EW a /\
 DT a /\ (∀ (i : Nat), i < a.l.length -> (nrB a a_7 i).lo = (nrF a a_5 i).lo /\ (nrB a a_7 i).hi = (nrF a a_5 i).hi) /\ Cu a) /\ YT a_7 a) /\ ∀ (a_7 : Nat), YT a_7 a -> bif decide (EO a a_7 >= (0 :
 Int)) then (P1 a a_7 /\ AFN a a_7 /\ X3 a a_7 /\ P1 a a_7 /\ AFN a a_7 /\ X3 a a_7 /\ EO a a_7 = EO a a_7 /\ dU a a_7 = dU a a_7 /\ Yh a a_7 = Yh
 a a_7 /\ DD /\ As a a_7 /\ As a a_7 /\ AAI a a_7 /\ DD /\ Wu a a_7 /\ ACT a a_7 /\ EO a a_7 < (↑(RL a a_7) : Int)) /\ ∃ (a_9 : Nat), (EO a a_9 = IntKind.i64.wrap
 (EO a a_7 - (1 : Int)) /\ FY a /\ FZ a /\ FW a /\ FX a /\ FV a /\ FC a /\ EY a /\ FG a /\ FK a /\ EA a /\ AT = AT /\ FB a /\ DZ a /\ EW a /\ Wu a
 a_7 /\ (∀ (i : Nat), i < a.l.length -> (nrB a a_9 i).lo = (T6 a a_7 i).lo /\ (nrB a a_9 i).hi = (T6 a a_7 i).hi) /\ Cu a) /\ BBY a_9 a a_7 else (DD /\ As a a_7 /\ As a a_7 /\
 AAI a a_7 /\ Wu a a_7 /\ (∀ (i : Nat), i < a.l.length -> (nrB a a_7 i).lo = AIF a a_7 i /\ (nrB a a_7 i).hi = AIK a a_7 i) /\ RL a a_7 < (4611686018427387904 : Nat) /\ True) /\ (KR a.w
 a.l).length = a.l.length /\ (0 : Nat) + a.l.length <= a.l.length /\ (∀ (j : Nat), j < (KR a.w a.l).length -> (gD (KR a.w a.l) j).lo = (AID a a_7 j).lo /\ (gD (KR a.w a.l) j).hi = (AID a a_7 j).hi) /\ (KR
 a.w a.l).all IW = (Da a a_7).all IW /\ FY a /\ FZ a /\ FW a /\ FX a /\ FV a /\ FC a /\ EY a /\ FG a /\ FK a /\ EA a /\ AT = AT /\ FB a /\ DZ a /\ EW a
theorem CWO (a : DkS) : (CSD a) = ((cY a = a.l.length /\ (∀ (i : Nat), i < cY a -> BUO a i = (gD a.l i).lo /\ BTF a i = (gD a.l i).hi) /\ (0 : Nat) < cY a /\ cY a < (1073741824 : Nat)) /\
 ((FY a /\ FZ a /\ FW a /\ FX a /\ FV a /\ K3 a = a.w.c.ms.length /\ (∀ (i : Nat), i < K3 a -> ASV a i = (gD a.w.c.ms i).pl /\ ARQ a i = (gD a.w.c.ms i).ht) /\ F8 a =
 a.w.c.ns.length /\ (∀ (i : Nat), i < F8 a -> BIX a i = (gD a.w.c.ns i).mi /\ AWK a i = Qt a i /\ AYL a i = Wd a i /\ BFT a i = Mb a i /\ BBK a i = Pe a i) /\ EA a /\
 AT = AT /\ (∀ (n : Int), AWA a n = hasN a.w.c.ns n) /\ DZ a /\ (∀ (n : Int), BEL a n = (ntOf a.w.c.ns n).mi /\ BGE a n = (ntOf a.w.c.ns n).t.lo /\ ATQ a n = (ntOf a.w.c.ns n).t.hi /\ AWF a n =
 (ntOf a.w.c.ns n).s.lo /\ AVU a n = (ntOf a.w.c.ns n).s.hi) /\ FY a /\ FZ a /\ FW a /\ FX a /\ FV a /\ a.w.c.ms.length = K3 a /\ (∀ (i : Nat), AXJ i a -> (gD a.w.c.ms i).pl = ASV a i
 /\ (gD a.w.c.ms i).ht = ARQ a i) /\ a.w.c.ns.length = F8 a /\ (∀ (i : Nat), BBJ i a -> (gD a.w.c.ns i).mi = BIX a i /\ Qt a i = AWK a i /\ Wd a i = AYL a i /\ Mb a i = BFT a
 i /\ Pe a i = BBK a i) /\ EA a /\ AT = AT /\ (∀ (n : Int), hasN a.w.c.ns n = AWA a n) /\ DZ a /\ ∀ (n : Int), (ntOf a.w.c.ns n).mi = BEL a n /\ (ntOf a.w.c.ns n).t.lo = BGE a n /\ (ntOf
 a.w.c.ns n).t.hi = ATQ a n /\ (ntOf a.w.c.ns n).s.lo = AWF a n /\ (ntOf a.w.c.ns n).s.hi = AVU a n) /\ ∀ (l : Nat), (∃ (a_1 : One), (Fn.yield l = Fn.yield l /\ Bg a = IntKind.i64.wrap (AZF a) /\
 Int.ofNat (0 : Nat) = Int.ofNat (0 : Nat) /\ FY a /\ FZ a /\ FW a /\ FX a /\ FV a /\ FC a /\ EY a /\ FG a /\ FK a /\ EA a /\ AT = AT /\ FB a /\ DZ a /\ EW a /\
 AVG a /\ (∀ (i : Nat), i < a.l.length -> (gD a.l i).lo = BUO a i /\ (gD a.l i).hi = BTF a i) /\ DD /\ AVG a /\ DD /\ ∀ (i : Nat), i < (0 : Nat) -> false = false) /\ True) /\ (∀ (a_1 : One), True -> bif
 decide ((↑(0 : Nat) : Int) < Bg a) then (((0 : Int) <= z_nar_52 /\ z_nar_52 < (↑a.w.c.ms.length : Int)) /\ ATY /\ (↑(0 : Nat) : Int) < (↑a.w.c.ms.length : Int)) /\ (ATY /\ (↑(0 : Nat) : Int) < (↑(40 : Nat) :
 Int)) /\ (Nat.succ (0 : Nat)).le (40 : Nat) /\ bif a.w.sp (0 : Nat) then l = l /\ AYK /\ ∃ (a_3 : Nat), (Fn.yield l = Fn.yield l /\ Je a /\ AVX a_3 /\ FY a /\ FZ a /\ FW a /\ FX a /\ FV a /\
 FC a /\ EY a /\ FG a /\ FK a /\ EA a /\ AT = AT /\ FB a /\ DZ a /\ EW a /\ DT a /\ OC a /\ DD /\ DT a /\ DD /\ a_3 = (1 : Nat) /\ a_3 = (1 : Nat) /\ ∀ (i :
 Nat), i < a_3 -> BIU a i /\ (FS a.w i).hi = (200000000 : Int)) /\ BAE a_3 a else l = l /\ AYK /\ ∃ (a_3 : Nat), (Fn.yield l = Fn.yield l /\ Je a /\ AVX a_3 /\ FY a /\ FZ a /\ FW a /\
 FX a /\ FV a /\ FC a /\ EY a /\ FG a /\ FK a /\ EA a /\ AT = AT /\ FB a /\ DZ a /\ EW a /\ DT a /\ OC a /\ DD /\ DT a /\ DD /\ a_3 = (1 : Nat) /\
 a_3 = (1 : Nat) /\ ∀ (i : Nat), i < a_3 -> BIU a i /\ (FS a.w i).hi = IntKind.i64.wrap (a.w.c.p.hi * BHF a)) /\ BAE a_3 a else ∃ (a_3 : One), (FY a /\ FZ a /\ FW a /\ FX a /\ FV a /\
 FC a /\ EY a /\ FG a /\ FK a /\ EA a /\ AT = AT /\ FB a /\ DZ a /\ EW a /\ DT a /\ OC a /\ DD /\ DT a /\ ATV a /\ ATV a) /\ True) /\ ∀ (a_1 : Nat),
 wJ a_1 a -> bif decide ((↑a_1 : Int) < Bg a) then ((AQX a_1 /\ KO a_1 < (↑a.w.c.ms.length : Int)) /\ Qg a_1 /\ (↑a_1 : Int) < (↑a.w.c.ms.length : Int)) /\ (Qg a_1 /\ (↑a_1 : Int) < (↑(40 :
 Nat) : Int)) /\ a_1.succ.le (40 : Nat) /\ bif a.w.sp a_1 then l = l /\ ASZ a_1 /\ ∃ (a_3 : Nat), (Fn.yield l = Fn.yield l /\ Je a /\ xA a_3 a_1 /\ FY a /\ FZ a /\ FW a /\ FX a /\ FV a /\
 FC a /\ EY a /\ FG a /\ FK a /\ EA a /\ AT = AT /\ FB a /\ DZ a /\ EW a /\ DT a /\ OC a /\ DD /\ DT a /\ DD /\ Sc a_3 a_1 /\ Sc a_3 a_1 /\ ∀ (i
 : Nat), i < a_3 -> AVC a i a_1 /\ (FS a.w i).hi = bif decide (i < a_1) then (FS a.w i).hi else (200000000 : Int)) /\ BIT a_3 a a_1 else l = l /\ ASZ a_1 /\ ∃ (a_3 : Nat), (Fn.yield l = Fn.yield l /\ Je
 a /\ xA a_3 a_1 /\ FY a /\ FZ a /\ FW a /\ FX a /\ FV a /\ FC a /\ EY a /\ FG a /\ FK a /\ EA a /\ AT = AT /\ FB a /\ DZ a /\ EW a /\ DT a /\ OC
 a /\ DD /\ DT a /\ DD /\ Sc a_3 a_1 /\ Sc a_3 a_1 /\ ∀ (i : Nat), i < a_3 -> AVC a i a_1 /\ (FS a.w i).hi = bif decide (i < a_1) then (FS a.w i).hi else IntKind.i64.wrap (a.w.c.p.hi *
 ASN a a_1)) /\ BIT a_3 a a_1 else ∃ (a_3 : One), (FY a /\ FZ a /\ FW a /\ FX a /\ FV a /\ FC a /\ EY a /\ FG a /\ FK a /\ EA a /\ AT = AT /\ FB a /\ DZ a
 /\ EW a /\ DT a /\ OC a /\ DD /\ DT a /\ (LG a.w).length = a_1 /\ ZY a_1 <= a_1 /\ ∀ (j : Nat), j < (LG a.w).length -> (gD (LG a.w) j).lo = (AYC a j).lo /\ (gD (LG a.w) j).hi =
 (AYC a j).hi) /\ True) /\ S4 a /\ S4 a) := by kernel_rfl
theorem CDV {L : Nat} {f : Nat -> Span} {k : Int} {s : Span} {i : Nat} (hi : i < L) (hk : k.toNat < L) : upd1 (AE L f) k s i = bif decide (i = k.toNat) then eS (f k.toNat) s else f i := by
 unfold upd1; rw [BN _ _ _ hi, BN _ _ _ hk]
theorem CMM (a : DkS) {k i : Nat} (hk : k + 1 < a.l.length) (hi : i < a.l.length) : nrF a (k + 1) i = upd1 (AE a.l.length λ i => nrF a k i) ((k + 1 : Nat) : Int) (addS (nrF a k k) (FS a.w k)) i := by
 rw [CDV hi (by show k + 1 < _; exact hk)]
 show _ = bif decide (i = k + 1) then eS (nrF a k (k + 1)) _ else _
 by_cases h : i = k + 1
 ·subst h
  simp only [nrF, Nat.le_refl, decide_true, cond_true, show ¬ k + 1 <= k by omega, decide_false, cond_false]
  rfl
 ·have e : decide (i <= k + 1) = decide (i <= k) := by rw [decide_eq_decide]; omega
  simp only [nrF, h, e, decide_false, cond_false]
theorem CJB (a : DkS) {j i : Nat} (hl : a.l.length = a.w.c.ms.length) (hj : j + 2 <= a.l.length) (hi : i < a.l.length) : nrB a (j + 1) i = upd1 (AE a.l.length λ i => nrB a j i) ((a.w.c.ms.length - 2 - j : Nat) : Int) (subS (nrB a j (a.w.c.ms.length - 2 - j + 1)) (FS a.w (a.w.c.ms.length - 2 - j))) i := by
 rw [CDV hi (by show a.w.c.ms.length - 2 - j < _; omega)]
 show _ = bif decide (i = a.w.c.ms.length - 2 - j) then eS (nrB a j (a.w.c.ms.length - 2 - j)) _ else _
 by_cases h : i = a.w.c.ms.length - 2 - j
 ·have e1 : decide (a.w.c.ms.length - 1 - (j + 1) <= i) = true := by rw [decide_eq_true_eq]; omega
  have e2 : decide (a.w.c.ms.length - 1 - j <= a.w.c.ms.length - 2 - j) = false := by rw [decide_eq_false_iff_not]; omega
  have e3 : decide (a.w.c.ms.length - 1 - j <= a.w.c.ms.length - 2 - j + 1) = true := by rw [decide_eq_true_eq]; omega
  have e4 : a.w.c.ms.length - 1 - i = j + 1 := by omega
  have e5 : a.w.c.ms.length - 1 - (a.w.c.ms.length - 2 - j + 1) = j := by omega
  have e6 : a.w.c.ms.length - 1 - (j + 1) = a.w.c.ms.length - 2 - j := by omega
  have e7 : decide (i = a.w.c.ms.length - 2 - j) = true := by rw [decide_eq_true_eq]; exact h
  have e8 : decide (a.w.c.ms.length - 2 - j <= i) = true := by rw [decide_eq_true_eq]; omega
  rw [e7]
  simp only [nrB, e2, e3, e4, e5, cond_true, cond_false, bkM, e6, e8]
 ·have e1 : decide (a.w.c.ms.length - 1 - (j + 1) <= i) = decide (a.w.c.ms.length - 1 - j <= i) := by rw [decide_eq_decide]; omega
  simp only [nrB, h, e1, decide_false, cond_false]
theorem CYW (a : DkS) (h : a.l.length = a.w.c.ms.length /\ 1 <= a.w.c.ms.length /\ a.w.c.ms.length <= 40) : CSD a := by
 obtain ⟨hl, h1, h2⟩ := h
 have e1 : wr ((a.w.c.ms.length : Int) - 1) = ((a.w.c.ms.length - 1 : Nat) : Int) := by unfold wr; rw [FH (by omega) (by omega)]; omega
 have e2 : IntKind.i64.wrap ((a.w.c.ms.length : Int) - 1) = ((a.w.c.ms.length - 1 : Nat) : Int) := e1
 have gl : (LG a.w).length = a.w.c.ms.length - 1 := rng_length _ _
 have gg : ∀ {j : Nat}, j < a.w.c.ms.length - 1 -> gD (LG a.w) j = FS a.w j := λ hj => BN _ _ _ hj
 have lo : ∀ k, (FS a.w k).lo = IntKind.i64.wrap (a.w.c.p.lo * IntKind.i64.wrap ((gD a.w.c.ms (k + 1)).pl - (gD a.w.c.ms k).pl)) := λ _ => rfl
 have hi1 : ∀ k, a.w.sp k = true -> (FS a.w k).hi = 200000000 := λ k h => by unfold FS; rw [h]; rfl
 have hi0 : ∀ k, a.w.sp k = false -> (FS a.w k).hi = IntKind.i64.wrap (a.w.c.p.hi * IntKind.i64.wrap ((gD a.w.c.ms (k + 1)).pl - (gD a.w.c.ms k).pl)) := λ k h => by unfold FS; rw [h]; rfl
 have ws : ∀ {k : Nat}, k < 40 -> IntKind.i64.wrap ((k : Int) + 1) = ((k + 1 : Nat) : Int) := λ h => GE (by omega)
 rw [CWO]; delta BNU cY BSX BUO BTF FY FZ FW FX FV BGF K3 AZB ASV ARQ Wl F8 G7 BIX APY AWK Qt AYL Wd ARJ BFT Mb BBK Pe EA AWA DZ A3 BEL ASR BGE ATQ AQQ AWF AVU AXJ BBJ AZF Bg FC EY FG FK FB EW AVG DD z_nar_52 ATY vZ BDN BFM AYK Je AVX DT OC BHF BIU BIZ wJ L8 BAE ATV KO AQX Qg B9 ASZ xA Sc ASN AVC BAR BIT ZY AYC uG I9 Cu ATP YT ASF BFP BCM BHD vA J8 xI Ju ATI BCG BGR AVK BBY EO aB P1 ADE AFN ACT X3 AGA AGL dU Yh Da RL As ADP AIF AIK AAI Wu T6 AID S4; simp only [CC, eq_self, implies_true, forall_const]; simp only [e1, e2, gl, hl]
 refine ⟨by omega, ⟨⟨default, trivial⟩, ⟨λ h0 => ?_, λ h0 => ⟨default, by omega⟩⟩, λ k hk => ⟨λ hlt => ?_, λ hge => ⟨default, by omega, Nat.le_refl _, λ j hj => by rw [gg hj]; exact ⟨rfl, rfl⟩⟩⟩⟩, ⟨default, trivial⟩, ⟨0, ⟨rfl, λ i hi => ?_⟩, Nat.zero_le _⟩, λ k hk => ⟨λ hlt => ?_, λ hge => ⟨⟨0, ⟨?_, λ i hi => ?_⟩, Nat.zero_le _⟩, λ j hj => ⟨λ hlt => ?_, λ hlt => ?_⟩⟩⟩⟩
 ·simp only [ws (show (0 : Nat) < 40 by omega), Int.toNat_natCast]
  refine ⟨by omega, by omega, by omega, λ h => ⟨by simp, 1, ⟨rfl, rfl, rfl, λ i hi => ?_⟩, by omega, by omega⟩, λ h => ⟨by simp, 1, ⟨rfl, rfl, rfl, λ i hi => ?_⟩, by omega, by omega⟩⟩
  ·obtain rfl : i = 0 := by omega
   exact ⟨lo 0, hi1 0 h⟩
  ·obtain rfl : i = 0 := by omega
   exact ⟨lo 0, hi0 0 h⟩
 ·simp only [ws (show k < 40 by omega), Int.toNat_natCast]
  refine ⟨by omega, by omega, by omega, λ h => ⟨⟨by omega, (λ h => by cases h), by omega, by omega⟩, k + 1, ⟨rfl, rfl, rfl, λ i hi => ?_⟩, by omega, by omega⟩, λ h => ⟨⟨by omega, (λ h => by cases h), by omega, by omega⟩, k + 1, ⟨rfl, rfl, rfl, λ i hi => ?_⟩, by omega, by omega⟩⟩
  ·by_cases q : i < k
   ·simp only [q, decide_true, cond_true, and_self]
   ·obtain rfl : i = k := by omega
    simp only [q, decide_false, cond_false]
    exact ⟨lo i, hi1 i h⟩
  ·by_cases q : i < k
   ·simp only [q, decide_true, cond_true, and_self]
   ·obtain rfl : i = k := by omega
    simp only [q, decide_false, cond_false]
    exact ⟨lo i, hi0 i h⟩
 ·by_cases q : i = 0
  ·subst q; exact ⟨rfl, rfl⟩
  ·have : ¬ i <= 0 := by omega
   simp only [nrF, this, decide_false, cond_false, and_self]
 ·simp only [ws (show k < 40 by omega)]
  refine ⟨by omega, ⟨by omega, by omega, by omega, by omega, λ i hi => by rw [BN _ _ _ hi]; exact ⟨rfl, rfl⟩, by omega, by omega⟩, k + 1, ⟨rfl, λ i hi => ?_⟩, by omega, by omega⟩
  have e := CMM a (k := k) (i := i) (by omega) (by omega)
  rw [gg (by omega), e, hl]; exact ⟨rfl, rfl⟩
 ·rw [FH (by omega) (by omega)]; omega
 ·obtain rfl : k = a.w.c.ms.length - 1 := by omega
  have q1 : decide (i <= a.w.c.ms.length - 1) = true := by rw [decide_eq_true_eq]; omega
  unfold nrB nrF; rw [q1]
  by_cases q : a.w.c.ms.length - 1 - 0 <= i
  ·have q2 : a.w.c.ms.length - 1 - i = 0 := by omega
   have q3 : i = a.w.c.ms.length - 1 := by omega
   simp only [q, decide_true, cond_true, q2, bkM]; rw [<- q3]; exact ⟨rfl, rfl⟩
  ·simp only [q, decide_false, cond_false, cond_true, and_self]
 ·have g0 : (a.w.c.ms.length : Int) - 2 - j = ((a.w.c.ms.length - 2 - j : Nat) : Int) := by omega
  have g1 : IntKind.i64.wrap (((a.w.c.ms.length - 2 - j : Nat) : Int) + 1) = ((a.w.c.ms.length - 2 - j + 1 : Nat) : Int) := ws (by omega)
  simp only [g0, g1, Int.toNat_natCast]
  refine ⟨⟨by omega, by omega, by omega, by omega, by omega, by omega, λ i hi => by rw [BN _ _ _ hi]; exact ⟨rfl, rfl⟩, by omega, by omega⟩, j + 1, ⟨?_, λ i hi => ?_⟩, by omega, by omega⟩
  ·rw [FH (by omega) (by omega)]; omega
  ·have e := CJB a (j := j) (i := i) hl (by omega) (by omega)
   rw [gg (by omega), e, hl]; exact ⟨rfl, rfl⟩
 ·have q : j = a.w.c.ms.length - 1 := by omega
  have eq1 : ∀ i, i < a.w.c.ms.length -> gD (KR a.w a.l) i = nrB a j i := λ i hi => by
   unfold KR; rw [BN _ _ _ (by omega), hl]
   have q2 : decide (a.w.c.ms.length - 1 - j <= i) = true := by rw [decide_eq_true_eq]; omega
   unfold nrB; rw [q2]; rfl
  have nl : (KR a.w a.l).length = a.w.c.ms.length := by unfold KR; rw [rng_length, hl]
  refine ⟨⟨λ i hi => by rw [BN _ _ _ hi]; exact ⟨rfl, rfl⟩, λ i hi => by rw [BN _ _ _ hi]; exact ⟨rfl, rfl⟩, by omega⟩, nl, Nat.le_refl _, λ i hi => by rw [eq1 i (by omega)]; exact ⟨rfl, rfl⟩, ?_⟩
  congr 1
  exact BLV (by rw [nl, rng_length]) λ i hi => by rw [eq1 i (by omega), BN _ _ _ (by omega)]
theorem CBQ : AM Try.prog SS (C_nar.spec dDkS) := LF C_nar CTO [] [2016] BXH (λ _ => by kernel_rfl) (λ _ => AC CMP (AC CDT (AC CPW (AC CXR AJ)))) (λ a h => CYW a h) (λ a => CSB Yk (CRQ a) rfl rfl AJ BXC (by kernel_rfl) (by kernel_rfl)) _
end Go.Bal
