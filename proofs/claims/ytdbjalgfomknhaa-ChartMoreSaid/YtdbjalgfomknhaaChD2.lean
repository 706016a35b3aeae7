/- Package chart: times are narrowed. -/
import Derived.Test.YtdbjalgfomknhaaChD1
set_option linter.unusedVariables false
set_option linter.unusedSimpArgs false
namespace Go.Bal
open Go Go.Sym Go.Proofs
def C_gaps : Ctr := { ro := [100, 101], α := Dk, xs := λ _ => [.bptr 100 0], L := λ w => dkL w, val := λ _ => .fn (.func pH) [] [.bptr 0 0], keep := λ w => dkK w ++ [(0, .live (.box [.bptr 100 0]))] }
def CZX : Ann := { ann 4 [] with E := [100, 101] }
def DAC (w : Dk) : Prop := AZ Try.prog CZX CTB (AN CTB) (C_gaps.xs w) (AF (C_gaps.L w)) (C_gaps.val w) (C_gaps.keep w) [(0, 1000)] []
theorem DIL (w : Dk) : (DAC w) = (w.c.p.lo = w.c.p.lo /\ w.c.p.hi = w.c.p.hi /\ w.c.base = w.c.base /\ w.c.scale = w.c.scale /\ w.c.off = w.c.off /\ w.c.ms.length = w.c.ms.length /\ (∀ (i : Nat), i < w.c.ms.length -> (gD
 w.c.ms i).pl = (gD w.c.ms i).pl /\ (gD w.c.ms i).ht = (gD w.c.ms i).ht) /\ w.c.ns.length = w.c.ns.length /\ (∀ (i : Nat), i < w.c.ns.length -> (gD w.c.ns i).mi = (gD w.c.ns i).mi /\ (gD w.c.ns i).t.lo = (gD w.c.ns i).t.lo /\
 (gD w.c.ns i).t.hi = (gD w.c.ns i).t.hi /\ (gD w.c.ns i).s.lo = (gD w.c.ns i).s.lo /\ (gD w.c.ns i).s.hi = (gD w.c.ns i).s.hi) /\ (∀ (i : Nat), i < 40 -> w.sp i = w.sp i) /\ AU = AU /\ (∀ (n : Int), hasN w.c.ns n = hasN
 w.c.ns n) /\ (∀ (n : Int), w.st n = w.st n) /\ ∀ (n : Int), (ntOf w.c.ns n).mi = (ntOf w.c.ns n).mi /\ (ntOf w.c.ns n).t.lo = (ntOf w.c.ns n).t.lo /\ (ntOf w.c.ns n).t.hi = (ntOf w.c.ns n).t.hi /\ (ntOf w.c.ns n).s.lo = (ntOf
 w.c.ns n).s.lo /\ (ntOf w.c.ns n).s.hi = (ntOf w.c.ns n).s.hi) := by kernel_rfl
theorem CTS : AP Try.prog CIP (C_gaps.spec dDk1) := MC C_gaps (λ _ => CZX) [(0, 1000)] [] DHC (λ _ => by kernel_rfl) (λ _ => AK) (λ (w : Dk) _ => by
 show DAC w; rw [DIL]; simp) (λ _ => MO rfl rfl) _
def farM (c : Cht) (g : Nat) : Int := wr ((gD c.ms (g + 1)).pl - (gD c.ms g).pl)
def GD (w : Dk) (g : Nat) : Span := ⟨wr (w.c.p.lo * farM w.c g), bif w.sp g then 200000000 else wr (w.c.p.hi * farM w.c g)⟩
def MQ (w : Dk) : List Span := AE (w.c.ms.length - 1) λ g => GD w g
structure LIS where
 l : List Span
 k : Int
 s : Span
def upd1 (l : List Span) (k : Int) (s : Span) (i : Nat) : Span := bif decide (i = k.toNat) then oI (gD l k.toNat) s else gD l i
def lkR (n : Nat) (f : Nat -> Span) : List (Nat × HCell) := [(100, .live (.box [.own 101 2 0 n])), (101, .live (.row 2 n λ i => CE (f i)))]
def C_nar1 : Ctr := { ro := [100], α := LIS, xs := λ a => [.int a.k, .d (CE a.s), .bptr 100 0], L := λ a => [(100, .box [.own 101 2 0 a.l.length]), (101, rowS a.l)], val := λ _ => .d (.tup []), keep := λ a => lkR a.l.length (upd1 a.l a.k a.s), pre := λ a => [0 <= a.k /\ a.k < a.l.length] }
def DCH : List AVal -> Heap -> Option (LIS × List (Nat × Nat) × List Nat)
 | [.d k, .d s, .bptr id _], H => match H id with
  | .live (.box [.own j _ _ _]) => match H j with
   | .live (.row _ n g) => some (⟨AE n λ i => MR (g i), CD k, MR s⟩, [(100, id), (101, j)], [])
   | _ => none
  | _ => none
 | _, _ => none
def DEE : Ann := { ann 15 [(ABN, C_com.spec DFI)] with E := [100, 101] }
def CYA (a : LIS) : Prop := AZ Try.prog DEE CRA (AN CRA) (C_nar1.xs a) (AF (C_nar1.L a)) (C_nar1.val a) (C_nar1.keep a) [] []
theorem DGG (a : LIS) : (CYA a) = (((0 <= a.k /\ a.k < (↑a.l.length : Int)) /\ 0 + a.k.toNat < a.l.length /\ (gD a.l (0 + a.k.toNat)).lo = (gD a.l (0 + a.k.toNat)).lo /\ (gD a.l (0 + a.k.toNat)).hi = (gD a.l (0 +
 a.k.toNat)).hi /\ (AE 1 λ (i : Nat) => a.s).length = 1 /\ 1 <= 1 /\ (∀ (j : Nat), j < (AE 1 λ (i : Nat) => a.s).length -> (gD (AE 1 λ (i : Nat) => a.s) j).lo = a.s.lo /\ (gD (AE 1 λ (i : Nat) => a.s) j).hi =
 a.s.hi) /\ true = true /\ (0 <= a.k /\ a.k < (↑a.l.length : Int)) /\ (0 + a.k.toNat).succ.le a.l.length) /\ 0 = 0 /\ a.l.length = a.l.length /\ a.l.length = a.l.length /\ ∀ (i : Nat), i < a.l.length -> ((upd1 a.l a.k a.s i).lo =
 bif decide (i = 0 + a.k.toNat) then (comM (SL.mk (gD a.l (0 + a.k.toNat)) (AE 1 λ (i : Nat) => a.s))).lo else (gD a.l i).lo) /\ (upd1 a.l a.k a.s i).hi = bif decide (i = 0 + a.k.toNat) then (comM (SL.mk (gD a.l (0 +
 a.k.toNat)) (AE 1 λ (i : Nat) => a.s))).hi else (gD a.l i).hi) := by kernel_rfl
theorem DGQ : AP Try.prog AKG (C_nar1.spec DCH) := MC C_nar1 (λ _ => DEE) [] [] DFZ (λ _ => by kernel_rfl) (λ _ => AD DCY AK) (λ (a : LIS) h => by
 show CYA a; rw [DGG]; simp only [CC, eq_self, implies_true, forall_const]
 have h : 0 <= a.k /\ a.k < a.l.length := h
 have e : comM ⟨gD a.l a.k.toNat, AE 1 λ _ => a.s⟩ = oI (gD a.l a.k.toNat) a.s := rfl
 refine ⟨⟨h, by omega, by omega, λ j hj => by rw [CB _ _ _ hj]; exact ⟨rfl, rfl⟩, h, by omega⟩, λ i hi => ?_⟩
 rw [e]; unfold upd1
 cases decide (i = a.k.toNat) <;> exact ⟨rfl, rfl⟩) (λ _ => MO rfl rfl) _
def addS (a s : Span) : Span := ⟨wr (a.lo + s.lo), wr (a.hi + s.hi)⟩
def subS (a s : Span) : Span := ⟨wr (a.lo - s.hi), wr (a.hi - s.lo)⟩
def fwM (l : List Span) (s : Nat -> Span) : Nat -> Span
 | 0 => gD l 0
 | g + 1 => oI (gD l (g + 1)) (addS (fwM l s g) (s g))
def bkM (f s : Nat -> Span) (n : Nat) : Nat -> Span
 | 0 => f n
 | j + 1 => oI (f (n - (j + 1))) (subS (bkM f s n j) (s (n - (j + 1))))
def MN (w : Dk) (l : List Span) : List Span := AE l.length λ i => bkM (fwM l (GD w)) (GD w) (l.length - 1) (l.length - 1 - i)
structure DkS where
 w : Dk
 l : List Span
def dDkS : List AVal -> Heap -> Option (DkS × List (Nat × Nat) × List Nat)
 | [.bptr id _, y], H => match rT H id, Bg y H with
  | some (w, q), some (l, f) => some (⟨w, l⟩, [(100, id), (101, q)], f)
  | _, _ => none
 | _, _ => none
def C_nar : Ctr := { ro := [100, 101], α := DkS, xs := λ a => [.bptr 100 0, .d (AV a.l)], L := λ a => dkL a.w, val := λ a => .tup [.d (AV (MN a.w a.l)), .bool ((MN a.w a.l).all KC)], keep := λ a => dkK a.w, pre := λ a => [a.l.length = a.w.c.ms.length /\ 1 <= a.w.c.ms.length /\ a.w.c.ms.length <= 40] }
def nrH (a : DkS) (f : Nat -> Span) (p : AVal) : List (Nat × HCell) := dkK a.w ++ [(2016, .live (.row 2 a.l.length λ i => CE (f i))), (2032, .live (.box [.own 2016 2 0 a.l.length])), (3000, .live (.box [p]))]
def gpS (a : DkS) (l k : Nat) : List (Nat × AVal) := [(0, .fn (.yield l) [] []), (1, .bptr 4016 0), (12, .int (wr ((a.w.c.ms.length : Int) - 1))), (13, .int k)]
def gpB : Nat × HCell := (4016, .live (.box [.bptr 100 0]))
def gp1n (a : DkS) (l : Nat) : Shape := { α := One, dflt := default, T := λ _ => ⟨gpS a l 0, nrH a (gD a.l) (.d GE) ++ [gpB]⟩, inv := λ _ => True, meas := λ _ => 60 }
def gp1o (a : DkS) (l : Nat) : Shape := { α := Nat, dflt := 0, T := λ k => ⟨gpS a l k, nrH a (gD a.l) (.own 302 2 0 k) ++ [gpB, (302, .live (.row 2 k λ i => CE (GD a.w i)))]⟩, inv := λ k => 1 <= k /\ k <= a.w.c.ms.length - 1, meas := λ k => 50 - k, again := [(302, 6048)] }
noncomputable def DJL (a : DkS) : IterAnn := { fn := AEC, code := AN AEC, live := [6, 7], ann := { base := λ id => 100000 + 1000 * (id + 1), Γ := Sym.look [], E := [100, 101, 2016, 2032, 3000, 4016], n := 66, inner := λ gs id => if id = 1 then some [gp1n a (gs.getD 0 0), gp1o a (gs.getD 0 0)] else none } }
def nr6T (a : DkS) : One -> ST := λ _ => ⟨[(6, .bptr 2032 0), (7, .bptr 3000 0)], nrH a (gD a.l) (.d (AV (MQ a.w)))⟩
def nr6 (a : DkS) (z : List Nat) : Shape := { α := One, dflt := default, T := nr6T a, inv := λ _ => True, meas := λ _ => 0, ffz := z }
def nr7 (a : DkS) : Shape := { α := One, dflt := default, T := λ _ => ⟨[(6, .bptr 2032 0), (7, .bptr 3000 0), (10, .fn (.func AKG) [] [.bptr 2032 0])], nrH a (gD a.l) (.d (AV (MQ a.w)))⟩, inv := λ _ => True, meas := λ _ => 0 }
def nrF (a : DkS) (k i : Nat) : Span := bif decide (i <= k) then fwM a.l (GD a.w) i else gD a.l i
def nrB (a : DkS) (j i : Nat) : Span := bif decide (a.w.c.ms.length - 1 - j <= i) then bkM (fwM a.l (GD a.w)) (GD a.w) (a.w.c.ms.length - 1) (a.w.c.ms.length - 1 - i) else fwM a.l (GD a.w) i
def nr8 (a : DkS) : Shape := { α := Nat, dflt := 0, T := λ k => ⟨[(6, .bptr 2032 0), (7, .bptr 3000 0), (10, .fn (.func AKG) [] [.bptr 2032 0]), (25, .d (AV (MQ a.w))), (26, .int (MQ a.w).length), (27, .int k)], nrH a (nrF a k) (.d (AV (MQ a.w)))⟩, inv := λ k => k <= a.w.c.ms.length - 1, meas := λ k => 50 - k }
def nr13 (a : DkS) : Shape := { α := Nat, dflt := 0, T := λ j => ⟨[(6, .bptr 2032 0), (7, .bptr 3000 0), (10, .fn (.func AKG) [] [.bptr 2032 0]), (13, .int ((a.w.c.ms.length : Int) - 2 - j))], nrH a (nrB a j) (.d (AV (MQ a.w)))⟩, inv := λ j => j <= a.w.c.ms.length - 1, meas := λ j => 50 - j }
noncomputable def DLM (a : DkS) : Ann := { ann 92 [(ABJ, C_clo.spec dSs1), (CIP, C_gaps.spec dDk1), (AKG, C_nar1.spec DCH), (n_eS, C4SnO.spec DLP)] with E := [100, 101], mt := λ id => id == 5, iter := λ g => if g = pH then some (DJL a) else none, loops := λ id => if id = 8 then some [nr8 a] else if id = 13 then some [nr13 a] else none, cut := λ id => if id = 6 then some [nr6 a [], nr6 a [302]] else if id = 7 then some [nr7 a] else none }
def DKD (a : DkS) : Prop := AZ Try.prog (DLM a) uV (AN uV) (C_nar.xs a) (AF (C_nar.L a)) (C_nar.val a) (C_nar.keep a) [] [2016]
abbrev CHQ (a : DkS) : List Span := AE a.l.length λ (i : Nat) => gD a.l i
abbrev iD (a : DkS) : Nat := (CHQ a).length
abbrev CJO (a : DkS) (i : Nat) : Span := gD (CHQ a) i
abbrev CJZ (a : DkS) (i : Nat) : Int := (CJO a i).lo
abbrev CEH (a : DkS) (i : Nat) : Int := (CJO a i).hi
abbrev GJ (a : DkS) : Prop := a.w.c.p.lo = a.w.c.p.lo
abbrev GG (a : DkS) : Prop := a.w.c.p.hi = a.w.c.p.hi
abbrev GI (a : DkS) : Prop := a.w.c.base = a.w.c.base
abbrev GH (a : DkS) : Prop := a.w.c.scale = a.w.c.scale
abbrev GF (a : DkS) : Prop := a.w.c.off = a.w.c.off
abbrev BWM (a : DkS) : List Mk := AE a.w.c.ms.length λ (i : Nat) => gD a.w.c.ms i
abbrev M1 (a : DkS) : Nat := (BWM a).length
abbrev BUR (a : DkS) (i : Nat) : Mk := gD (BWM a) i
abbrev CAK (a : DkS) (i : Nat) : Int := (BUR a i).pl
abbrev BYF (a : DkS) (i : Nat) : Int := (BUR a i).ht
abbrev Zm (a : DkS) : List Nt := AE a.w.c.ns.length λ (i : Nat) => gD a.w.c.ns i
abbrev AAR (a : DkS) : Nat := (Zm a).length
abbrev Y0 (a : DkS) (i : Nat) : Nt := gD (Zm a) i
abbrev BOW (a : DkS) (i : Nat) : Int := (Y0 a i).mi
abbrev BYA (a : DkS) (i : Nat) : Span := (Y0 a i).t
abbrev BPB (a : DkS) (i : Nat) : Int := (BYA a i).lo
abbrev Pj (a : DkS) (i : Nat) : Int := (gD a.w.c.ns i).t.lo
abbrev BQP (a : DkS) (i : Nat) : Int := (BYA a i).hi
abbrev Sk (a : DkS) (i : Nat) : Int := (gD a.w.c.ns i).t.hi
abbrev BNV (a : DkS) (i : Nat) : Span := (Y0 a i).s
abbrev BTS (a : DkS) (i : Nat) : Int := (BNV a i).lo
abbrev Up (a : DkS) (i : Nat) : Int := (gD a.w.c.ns i).s.lo
abbrev BXW (a : DkS) (i : Nat) : Int := (BNV a i).hi
abbrev Ns (a : DkS) (i : Nat) : Int := (gD a.w.c.ns i).s.hi
abbrev DX (a : DkS) : Prop := ∀ (i : Nat), i < (40 : Nat) -> a.w.sp i = a.w.sp i
abbrev BKY (a : DkS) (n : Int) : Bool := hasN (Zm a) n
abbrev EA (a : DkS) : Prop := ∀ (n : Int), a.w.st n = a.w.st n
abbrev ABZ (a : DkS) (n : Int) : Nt := ntOf (Zm a) n
abbrev BNB (a : DkS) (n : Int) : Int := (ABZ a n).mi
abbrev BWN (a : DkS) (n : Int) : Span := (ABZ a n).t
abbrev BXO (a : DkS) (n : Int) : Int := (BWN a n).lo
abbrev BOR (a : DkS) (n : Int) : Int := (BWN a n).hi
abbrev BVP (a : DkS) (n : Int) : Span := (ABZ a n).s
abbrev BPW (a : DkS) (n : Int) : Int := (BVP a n).lo
abbrev BPH (a : DkS) (n : Int) : Int := (BVP a n).hi
abbrev BQE (i : Nat) (a : DkS) : Prop := i < a.w.c.ms.length
abbrev BJK (i : Nat) (a : DkS) : Prop := i < a.w.c.ns.length
abbrev BUT (a : DkS) : Int := (↑a.w.c.ms.length : Int) - (1 : Int)
abbrev Dl (a : DkS) : Int := wr (BUT a)
abbrev FP (a : DkS) : Prop := a.w.c.ms.length = a.w.c.ms.length
abbrev FD (a : DkS) : Prop := ∀ (i : Nat), BQE i a -> (gD a.w.c.ms i).pl = (gD a.w.c.ms i).pl /\ (gD a.w.c.ms i).ht = (gD a.w.c.ms i).ht
abbrev EY (a : DkS) : Prop := a.w.c.ns.length = a.w.c.ns.length
abbrev FG (a : DkS) : Prop := ∀ (i : Nat), BJK i a -> (gD a.w.c.ns i).mi = (gD a.w.c.ns i).mi /\ Pj a i = Pj a i /\ Sk a i = Sk a i /\ Up a i = Up a i /\ Ns a i = Ns
 a i
abbrev FM (a : DkS) : Prop := ∀ (n : Int), hasN a.w.c.ns n = hasN a.w.c.ns n
abbrev FQ (a : DkS) : Prop := ∀ (n : Int), (ntOf a.w.c.ns n).mi = (ntOf a.w.c.ns n).mi /\ (ntOf a.w.c.ns n).t.lo = (ntOf a.w.c.ns n).t.lo /\ (ntOf a.w.c.ns n).t.hi = (ntOf a.w.c.ns n).t.hi /\ (ntOf a.w.c.ns n).s.lo =
 (ntOf a.w.c.ns n).s.lo /\ (ntOf a.w.c.ns n).s.hi = (ntOf a.w.c.ns n).s.hi
abbrev BUV (a : DkS) : Prop := a.l.length = iD a
abbrev CW : Prop := (0 : Nat) = (0 : Nat)
abbrev z_nar_52 : Int := IntKind.i64.wrap ((↑(0 : Nat) : Int) + (1 : Int))
abbrev BOJ : Prop := (0 : Int) <= (↑(0 : Nat) : Int)
abbrev ADX : Prop := (0 : Nat) < (1 : Nat)
abbrev BXH : Prop := (2 : Nat) = (2 : Nat)
abbrev BYT : Prop := (1 : Nat) <= (1 : Nat) /\ (ADX -> BXH)
abbrev BLQ : Prop := (True /\ ((0 : Nat) < (0 : Nat) -> (0 : Nat) = (2 : Nat))) /\ BYT /\ (true = true -> ADX) /\ (1 : Nat) <= (9223372036854775807 : Nat) /\ (16 : Nat) <= (140737488355328 : Nat)
abbrev Vz (a : DkS) : Prop := Dl a = Dl a
abbrev BKW (a : Nat) : Prop := (↑a : Int) = z_nar_52
abbrev DH (a : DkS) : Prop := a.l.length = a.l.length
abbrev QZ (a : DkS) : Prop := ∀ (i : Nat), i < a.l.length -> (gD a.l i).lo = (gD a.l i).lo /\ (gD a.l i).hi = (gD a.l i).hi
abbrev BOU (a : DkS) : Int := IntKind.i64.wrap ((gD a.w.c.ms z_nar_52.toNat).pl - (gD a.w.c.ms (0 : Nat)).pl)
abbrev BSI (a : DkS) (i : Nat) : Prop := (GD a.w i).lo = IntKind.i64.wrap (a.w.c.p.lo * BOU a)
abbrev BRW (a : DkS) : Nat := a.w.c.ms.length - (1 : Nat)
abbrev AAX (a : Nat) (a1 : DkS) : Prop := (1 : Nat) <= a /\ a <= BRW a1
abbrev ACL (a : Nat) : Nat := (50 : Nat) - a
abbrev BRC (a : Nat) (a1 : DkS) : Prop := AAX a a1 /\ ACL a < (60 : Nat)
abbrev BZJ (a : DkS) : Prop := (MQ a.w).length = (0 : Nat)
abbrev MK (a : Nat) : Int := IntKind.i64.wrap ((↑a : Int) + (1 : Int))
abbrev CAM (a : Nat) : Prop := (0 : Int) <= MK a
abbrev Vs (a : Nat) : Prop := (0 : Int) <= (↑a : Int)
abbrev ABD (a : Nat) : Nat := a + (1 : Nat)
abbrev BPY (a : Nat) : Prop := (a = a /\ ((0 : Nat) < a -> BXH)) /\ BYT /\ (false = true -> ADX) /\ ABD a <= (9223372036854775807 : Nat) /\ ABD a * (16 : Nat) <= (140737488355328 : Nat)
abbrev Y5 (a : Nat) (a1 : Nat) : Prop := (↑a : Int) = MK a1
abbrev Pg (a : Nat) (a1 : Nat) : Prop := a = ABD a1
abbrev CAD (a : DkS) (a1 : Nat) : Int := IntKind.i64.wrap ((gD a.w.c.ms (MK a1).toNat).pl - (gD a.w.c.ms a1).pl)
abbrev BPL (a : DkS) (i : Nat) (a1 : Nat) : Prop := (GD a.w i).lo = bif decide (i < a1) then (GD a.w i).lo else IntKind.i64.wrap (a.w.c.p.lo * CAD a a1)
abbrev BNE (a : Nat) (a1 : Nat) : Prop := ACL a < ACL a1
abbrev CAI (a : Nat) (a1 : DkS) (a2 : Nat) : Prop := AAX a a1 /\ BNE a a2
abbrev Ff (a : Nat) : Nat := (0 : Nat) + a
abbrev BRK (a : DkS) (j : Nat) : Span := GD a.w (Ff j)
abbrev Y7 (a : DkS) : Prop := (MQ a.w).length = (MQ a.w).length
abbrev R4 (a : DkS) : Prop := ∀ (i : Nat), i < (MQ a.w).length -> (gD (MQ a.w) i).lo = (gD (MQ a.w) i).lo /\ (gD (MQ a.w) i).hi = (gD (MQ a.w) i).hi
abbrev Gr (a : DkS) : Prop := CW /\ DH a /\ Y7 a /\ R4 a
abbrev BNY (a : DkS) : Prop := (↑(MQ a.w).length : Int) = (↑(MQ a.w).length : Int)
abbrev Fu (a : Nat) (a1 : DkS) : Prop := a.le (BRW a1)
abbrev BWV (a : Nat) (a1 : DkS) : Prop := (↑a : Int) < (↑(MQ a1.w).length : Int)
abbrev BUJ (a : Nat) (a1 : DkS) : Prop := Vs a /\ (↑a : Int) < (↑a1.l.length : Int)
abbrev BYD (a : Nat) (a1 : DkS) : Prop := Ff a < a1.l.length
abbrev BPO (a : DkS) (a1 : Nat) : Span := nrF a a1 (Ff a1)
abbrev N8 (a : DkS) (a1 : Nat) : Int := IntKind.i64.wrap ((BPO a a1).lo + (gD (MQ a.w) a1).lo)
abbrev AAT (a : DkS) (a1 : Nat) : Int := IntKind.i64.wrap ((BPO a a1).hi + (gD (MQ a.w) a1).hi)
abbrev W0 (a : DkS) (a1 : Nat) : List Span := AE a.l.length λ (i : Nat) => nrF a a1 i
abbrev Wq (a : DkS) (a1 : Nat) : Nat := (W0 a a1).length
abbrev BLF (a : DkS) (a1 : Nat) : Prop := Wq a a1 = a.l.length
abbrev BWE (a : DkS) (a1 : Nat) (i : Nat) : Span := gD (W0 a a1) i
abbrev BTZ (a : DkS) (a1 : Nat) : Prop := a.l.length = Wq a a1
abbrev BZX (a : DkS) (a1 : Nat) (i : Nat) : Span := upd1 (W0 a a1) (MK a1) (Span.mk (N8 a a1) (AAT a a1)) i
abbrev BNK (a : Nat) (a1 : DkS) (a2 : Nat) : Prop := Fu a a1 /\ BNE a a2
abbrev EQ (a : DkS) (a1 : Nat) : Int := (↑a.w.c.ms.length : Int) - (2 : Int) - (↑a1 : Int)
abbrev jB (a : DkS) (a1 : Nat) : Int := IntKind.i64.wrap (EQ a a1 + (1 : Int))
abbrev ANV (a : DkS) (a1 : Nat) : Prop := (0 : Int) <= jB a a1 /\ jB a a1 < (↑a.l.length : Int)
abbrev AQZ (a : DkS) (a1 : Nat) : Nat := (0 : Nat) + (jB a a1).toNat
abbrev ASN (a : DkS) (a1 : Nat) : Prop := AQZ a a1 < a.l.length
abbrev AYH (a : DkS) (a1 : Nat) : Prop := (0 : Int) <= EQ a a1
abbrev BAC (a : DkS) (a1 : Nat) : Prop := AYH a a1 /\ EQ a a1 < (↑(MQ a.w).length : Int)
abbrev BEF (a : DkS) (a1 : Nat) : Span := nrB a a1 (AQZ a a1)
abbrev BCJ (a : DkS) (a1 : Nat) : Span := gD (MQ a.w) (EQ a a1).toNat
abbrev fL (a : DkS) (a1 : Nat) : Int := IntKind.i64.wrap ((BEF a a1).lo - (BCJ a a1).hi)
abbrev lS (a : DkS) (a1 : Nat) : Int := IntKind.i64.wrap ((BEF a a1).hi - (BCJ a a1).lo)
abbrev Ck (a : DkS) (a1 : Nat) : List Span := AE a.l.length λ (i : Nat) => nrB a a1 i
abbrev SM (a : DkS) (a1 : Nat) : Nat := (Ck a a1).length
abbrev Dc (a : DkS) (a1 : Nat) : Prop := SM a a1 = a.l.length
abbrev AMF (a : DkS) (a1 : Nat) (i : Nat) : Span := gD (Ck a a1) i
abbrev BDN (a : DkS) (a1 : Nat) (i : Nat) : Int := (AMF a a1 i).lo
abbrev APE (a : DkS) (a1 : Nat) (i : Nat) : Int := (AMF a a1 i).hi
abbrev AYM (a : DkS) (a1 : Nat) : Prop := ∀ (i : Nat), i < SM a a1 -> BDN a a1 i = (nrB a a1 i).lo /\ APE a a1 i = (nrB a a1 i).hi
abbrev mM (a : DkS) (a1 : Nat) : Prop := a.l.length = SM a a1
abbrev AIJ (a : DkS) (a1 : Nat) (i : Nat) : Span := upd1 (Ck a a1) (EQ a a1) (Span.mk (fL a a1) (lS a a1)) i
abbrev AKO (a : DkS) (a1 : Nat) (j : Nat) : Span := nrB a a1 (Ff j)
abbrev AOF (a : DkS) : Prop := ∀ (a_1 : One), True -> (∃ (a_3 : One), (GJ a /\ GG a /\ GI a /\ GH a /\ GF a /\ FP a /\ FD a /\ EY a /\ FG a /\ DX a /\ AU = AU /\
 FM a /\ EA a /\ FQ a /\ DH a /\ QZ a /\ Gr a) /\ True) /\ ∀ (a_3 : One), True -> (∃ (a_5 : Nat), (Y7 a /\ R4 a /\ BNY a /\ (↑a_5 : Int) = (0 : Int) /\ GJ a /\ GG a /\
 GI a /\ GH a /\ GF a /\ FP a /\ FD a /\ EY a /\ FG a /\ DX a /\ AU = AU /\ FM a /\ EA a /\ FQ a /\ DH a /\ (∀ (i : Nat), i < a.l.length -> (nrF a a_5 i).lo = (gD
 a.l i).lo /\ (nrF a a_5 i).hi = (gD a.l i).hi) /\ Gr a) /\ Fu a_5 a) /\ ∀ (a_5 : Nat), Fu a_5 a -> bif decide (BWV a_5 a) then (Vs a_5 /\ BWV a_5 a) /\ (BUJ a_5 a /\ BYD a_5 a /\
 BUJ a_5 a /\ BYD a_5 a /\ MK a_5 = MK a_5 /\ N8 a a_5 = N8 a a_5 /\ AAT a a_5 = AAT a a_5 /\ CW /\ BLF a a_5 /\ BLF a a_5 /\ (∀ (i : Nat), i < Wq a a_5 ->
 (BWE a a_5 i).lo = (nrF a a_5 i).lo /\ (BWE a a_5 i).hi = (nrF a a_5 i).hi) /\ CW /\ BTZ a a_5 /\ CAM a_5 /\ MK a_5 < (↑(Wq a a_5) : Int)) /\ ∃ (a_7 : Nat), (Y7 a /\ R4 a /\
 BNY a /\ Y5 a_7 a_5 /\ GJ a /\ GG a /\ GI a /\ GH a /\ GF a /\ FP a /\ FD a /\ EY a /\ FG a /\ DX a /\ AU = AU /\ FM a /\ EA a /\ FQ a /\ BTZ a
 a_5 /\ (∀ (i : Nat), i < a.l.length -> (nrF a a_7 i).lo = (BZX a a_5 i).lo /\ (nrF a a_7 i).hi = (BZX a a_5 i).hi) /\ Gr a) /\ BNK a_7 a a_5 else (∃ (a_7 : Nat), (EQ a a_7 = IntKind.i64.wrap
 ((↑(MQ a.w).length : Int) - (1 : Int)) /\ GJ a /\ GG a /\ GI a /\ GH a /\ GF a /\ FP a /\ FD a /\ EY a /\ FG a /\ DX a /\ AU = AU /\ FM a /\ EA a /\ FQ a /\
 DH a /\ (∀ (i : Nat), i < a.l.length -> (nrB a a_7 i).lo = (nrF a a_5 i).lo /\ (nrB a a_7 i).hi = (nrF a a_5 i).hi) /\ Gr a) /\ Fu a_7 a) /\ ∀ (a_7 : Nat), Fu a_7 a -> bif decide (EQ a a_7 >= (0 :
 Int)) then (ANV a a_7 /\ ASN a a_7 /\ BAC a a_7 /\ ANV a a_7 /\ ASN a a_7 /\ BAC a a_7 /\ EQ a a_7 = EQ a a_7 /\ fL a a_7 = fL a a_7 /\ lS a a_7 = lS
 a a_7 /\ CW /\ Dc a a_7 /\ Dc a a_7 /\ AYM a a_7 /\ CW /\ mM a a_7 /\ AYH a a_7 /\ EQ a a_7 < (↑(SM a a_7) : Int)) /\ ∃ (a_9 : Nat), (EQ a a_9 = IntKind.i64.wrap
 (EQ a a_7 - (1 : Int)) /\ GJ a /\ GG a /\ GI a /\ GH a /\ GF a /\ FP a /\ FD a /\ EY a /\ FG a /\ DX a /\ AU = AU /\ FM a /\ EA a /\ FQ a /\ mM a
 a_7 /\ (∀ (i : Nat), i < a.l.length -> (nrB a a_9 i).lo = (AIJ a a_7 i).lo /\ (nrB a a_9 i).hi = (AIJ a a_7 i).hi) /\ Gr a) /\ BNK a_9 a a_7 else (CW /\ Dc a a_7 /\ Dc a a_7 /\
 AYM a a_7 /\ mM a a_7 /\ (∀ (i : Nat), i < a.l.length -> (nrB a a_7 i).lo = BDN a a_7 i /\ (nrB a a_7 i).hi = APE a a_7 i) /\ SM a a_7 < (4611686018427387904 : Nat) /\ True) /\ (MN a.w
 a.l).length = a.l.length /\ (0 : Nat) + a.l.length <= a.l.length /\ (∀ (j : Nat), j < (MN a.w a.l).length -> (gD (MN a.w a.l) j).lo = (AKO a a_7 j).lo /\ (gD (MN a.w a.l) j).hi = (AKO a a_7 j).hi) /\ (MN
 a.w a.l).all KC = (Ck a a_7).all KC /\ GJ a /\ GG a /\ GI a /\ GH a /\ GF a /\ FP a /\ FD a /\ EY a /\ FG a /\ DX a /\ AU = AU /\ FM a /\ EA a /\ FQ a
theorem DNA (a : DkS) : (DKD a) = ((iD a = a.l.length /\ (∀ (i : Nat), i < iD a -> CJZ a i = (gD a.l i).lo /\ CEH a i = (gD a.l i).hi) /\ (0 : Nat) < iD a /\ iD a < (1073741824 : Nat)) /\
 ((GJ a /\ GG a /\ GI a /\ GH a /\ GF a /\ M1 a = a.w.c.ms.length /\ (∀ (i : Nat), i < M1 a -> CAK a i = (gD a.w.c.ms i).pl /\ BYF a i = (gD a.w.c.ms i).ht) /\ AAR a =
 a.w.c.ns.length /\ (∀ (i : Nat), i < AAR a -> BOW a i = (gD a.w.c.ns i).mi /\ BPB a i = Pj a i /\ BQP a i = Sk a i /\ BTS a i = Up a i /\ BXW a i = Ns a i) /\ DX a /\
 AU = AU /\ (∀ (n : Int), BKY a n = hasN a.w.c.ns n) /\ EA a /\ (∀ (n : Int), BNB a n = (ntOf a.w.c.ns n).mi /\ BXO a n = (ntOf a.w.c.ns n).t.lo /\ BOR a n = (ntOf a.w.c.ns n).t.hi /\ BPW a n =
 (ntOf a.w.c.ns n).s.lo /\ BPH a n = (ntOf a.w.c.ns n).s.hi) /\ GJ a /\ GG a /\ GI a /\ GH a /\ GF a /\ a.w.c.ms.length = M1 a /\ (∀ (i : Nat), BQE i a -> (gD a.w.c.ms i).pl = CAK a i
 /\ (gD a.w.c.ms i).ht = BYF a i) /\ a.w.c.ns.length = AAR a /\ (∀ (i : Nat), BJK i a -> (gD a.w.c.ns i).mi = BOW a i /\ Pj a i = BPB a i /\ Sk a i = BQP a i /\ Up a i = BTS a
 i /\ Ns a i = BXW a i) /\ DX a /\ AU = AU /\ (∀ (n : Int), hasN a.w.c.ns n = BKY a n) /\ EA a /\ ∀ (n : Int), (ntOf a.w.c.ns n).mi = BNB a n /\ (ntOf a.w.c.ns n).t.lo = BXO a n /\ (ntOf
 a.w.c.ns n).t.hi = BOR a n /\ (ntOf a.w.c.ns n).s.lo = BPW a n /\ (ntOf a.w.c.ns n).s.hi = BPH a n) /\ ∀ (l : Nat), (∃ (a_1 : One), (Fn.yield l = Fn.yield l /\ Dl a = IntKind.i64.wrap (BUT a) /\
 Int.ofNat (0 : Nat) = Int.ofNat (0 : Nat) /\ GJ a /\ GG a /\ GI a /\ GH a /\ GF a /\ FP a /\ FD a /\ EY a /\ FG a /\ DX a /\ AU = AU /\ FM a /\ EA a /\ FQ a /\
 BUV a /\ (∀ (i : Nat), i < a.l.length -> (gD a.l i).lo = CJZ a i /\ (gD a.l i).hi = CEH a i) /\ CW /\ BUV a /\ CW /\ ∀ (i : Nat), i < (0 : Nat) -> false = false) /\ True) /\ (∀ (a_1 : One), True -> bif
 decide ((↑(0 : Nat) : Int) < Dl a) then (((0 : Int) <= z_nar_52 /\ z_nar_52 < (↑a.w.c.ms.length : Int)) /\ BOJ /\ (↑(0 : Nat) : Int) < (↑a.w.c.ms.length : Int)) /\ (BOJ /\ (↑(0 : Nat) : Int) < (↑(40 : Nat) :
 Int)) /\ (Nat.succ (0 : Nat)).le (40 : Nat) /\ bif a.w.sp (0 : Nat) then l = l /\ BLQ /\ ∃ (a_3 : Nat), (Fn.yield l = Fn.yield l /\ Vz a /\ BKW a_3 /\ GJ a /\ GG a /\ GI a /\ GH a /\ GF a /\
 FP a /\ FD a /\ EY a /\ FG a /\ DX a /\ AU = AU /\ FM a /\ EA a /\ FQ a /\ DH a /\ QZ a /\ CW /\ DH a /\ CW /\ a_3 = (1 : Nat) /\ a_3 = (1 : Nat) /\ ∀ (i :
 Nat), i < a_3 -> BSI a i /\ (GD a.w i).hi = (200000000 : Int)) /\ BRC a_3 a else l = l /\ BLQ /\ ∃ (a_3 : Nat), (Fn.yield l = Fn.yield l /\ Vz a /\ BKW a_3 /\ GJ a /\ GG a /\ GI a /\
 GH a /\ GF a /\ FP a /\ FD a /\ EY a /\ FG a /\ DX a /\ AU = AU /\ FM a /\ EA a /\ FQ a /\ DH a /\ QZ a /\ CW /\ DH a /\ CW /\ a_3 = (1 : Nat) /\
 a_3 = (1 : Nat) /\ ∀ (i : Nat), i < a_3 -> BSI a i /\ (GD a.w i).hi = IntKind.i64.wrap (a.w.c.p.hi * BOU a)) /\ BRC a_3 a else ∃ (a_3 : One), (GJ a /\ GG a /\ GI a /\ GH a /\ GF a /\
 FP a /\ FD a /\ EY a /\ FG a /\ DX a /\ AU = AU /\ FM a /\ EA a /\ FQ a /\ DH a /\ QZ a /\ CW /\ DH a /\ BZJ a /\ BZJ a) /\ True) /\ ∀ (a_1 : Nat),
 AAX a_1 a -> bif decide ((↑a_1 : Int) < Dl a) then ((CAM a_1 /\ MK a_1 < (↑a.w.c.ms.length : Int)) /\ Vs a_1 /\ (↑a_1 : Int) < (↑a.w.c.ms.length : Int)) /\ (Vs a_1 /\ (↑a_1 : Int) < (↑(40 :
 Nat) : Int)) /\ a_1.succ.le (40 : Nat) /\ bif a.w.sp a_1 then l = l /\ BPY a_1 /\ ∃ (a_3 : Nat), (Fn.yield l = Fn.yield l /\ Vz a /\ Y5 a_3 a_1 /\ GJ a /\ GG a /\ GI a /\ GH a /\ GF a /\
 FP a /\ FD a /\ EY a /\ FG a /\ DX a /\ AU = AU /\ FM a /\ EA a /\ FQ a /\ DH a /\ QZ a /\ CW /\ DH a /\ CW /\ Pg a_3 a_1 /\ Pg a_3 a_1 /\ ∀ (i
 : Nat), i < a_3 -> BPL a i a_1 /\ (GD a.w i).hi = bif decide (i < a_1) then (GD a.w i).hi else (200000000 : Int)) /\ CAI a_3 a a_1 else l = l /\ BPY a_1 /\ ∃ (a_3 : Nat), (Fn.yield l = Fn.yield l /\ Vz
 a /\ Y5 a_3 a_1 /\ GJ a /\ GG a /\ GI a /\ GH a /\ GF a /\ FP a /\ FD a /\ EY a /\ FG a /\ DX a /\ AU = AU /\ FM a /\ EA a /\ FQ a /\ DH a /\ QZ
 a /\ CW /\ DH a /\ CW /\ Pg a_3 a_1 /\ Pg a_3 a_1 /\ ∀ (i : Nat), i < a_3 -> BPL a i a_1 /\ (GD a.w i).hi = bif decide (i < a_1) then (GD a.w i).hi else IntKind.i64.wrap (a.w.c.p.hi *
 CAD a a_1)) /\ CAI a_3 a a_1 else ∃ (a_3 : One), (GJ a /\ GG a /\ GI a /\ GH a /\ GF a /\ FP a /\ FD a /\ EY a /\ FG a /\ DX a /\ AU = AU /\ FM a /\ EA a
 /\ FQ a /\ DH a /\ QZ a /\ CW /\ DH a /\ (MQ a.w).length = a_1 /\ Ff a_1 <= a_1 /\ ∀ (j : Nat), j < (MQ a.w).length -> (gD (MQ a.w) j).lo = (BRK a j).lo /\ (gD (MQ a.w) j).hi =
 (BRK a j).hi) /\ True) /\ AOF a /\ AOF a) := by kernel_rfl
theorem CVS {L : Nat} {f : Nat -> Span} {k : Int} {s : Span} {i : Nat} (hi : i < L) (hk : k.toNat < L) : upd1 (AE L f) k s i = bif decide (i = k.toNat) then oI (f k.toNat) s else f i := by
 unfold upd1; rw [CB _ _ _ hi, CB _ _ _ hk]
theorem DEG (a : DkS) {k i : Nat} (hk : k + 1 < a.l.length) (hi : i < a.l.length) : nrF a (k + 1) i = upd1 (AE a.l.length λ i => nrF a k i) ((k + 1 : Nat) : Int) (addS (nrF a k k) (GD a.w k)) i := by
 rw [CVS hi (by show k + 1 < _; exact hk)]
 show _ = bif decide (i = k + 1) then oI (nrF a k (k + 1)) _ else _
 by_cases h : i = k + 1
 ·subst h
  simp only [nrF, Nat.le_refl, decide_true, cond_true, show ¬ k + 1 <= k by omega, decide_false, cond_false]
  rfl
 ·have e : decide (i <= k + 1) = decide (i <= k) := by rw [decide_eq_decide]; omega
  simp only [nrF, h, e, decide_false, cond_false]
theorem DEC (a : DkS) {j i : Nat} (hl : a.l.length = a.w.c.ms.length) (hj : j + 2 <= a.l.length) (hi : i < a.l.length) : nrB a (j + 1) i = upd1 (AE a.l.length λ i => nrB a j i) ((a.w.c.ms.length - 2 - j : Nat) : Int) (subS (nrB a j (a.w.c.ms.length - 2 - j + 1)) (GD a.w (a.w.c.ms.length - 2 - j))) i := by
 rw [CVS hi (by show a.w.c.ms.length - 2 - j < _; omega)]
 show _ = bif decide (i = a.w.c.ms.length - 2 - j) then oI (nrB a j (a.w.c.ms.length - 2 - j)) _ else _
 by_cases h : i = a.w.c.ms.length - 2 - j
 ·have e1 : decide (a.w.c.ms.length - 1 - (j + 1) <= i) = true := by rw [decide_eq_true_eq]; omega
  have e2 : decide (a.w.c.ms.length - 1 - j <= a.w.c.ms.length - 2 - j) = false := by rw [decide_eq_false_iff_not]; omega
  have e3 : decide (a.w.c.ms.length - 1 - j <= a.w.c.ms.length - 2 - j + 1) = true := by rw [decide_eq_true_eq]; omega
  have e4 : a.w.c.ms.length - 1 - i = j + 1 := by omega
  have e5 : a.w.c.ms.length - 1 - (a.w.c.ms.length - 2 - j + 1) = j := by omega
  have e6 : a.w.c.ms.length - 1 - (j + 1) = a.w.c.ms.length - 2 - j := by omega
  have e7 : decide (i = a.w.c.ms.length - 2 - j) = true := by rw [decide_eq_true_eq]; exact h
  have e8 : decide (a.w.c.ms.length - 2 - j <= i) = true := by rw [decide_eq_true_eq]; omega
  rw [e7]
  simp only [nrB, e2, e3, e4, e5, cond_true, cond_false, bkM, e6, e8]
 ·have e1 : decide (a.w.c.ms.length - 1 - (j + 1) <= i) = decide (a.w.c.ms.length - 1 - j <= i) := by rw [decide_eq_decide]; omega
  simp only [nrB, h, e1, decide_false, cond_false]
theorem DSY (a : DkS) (h : a.l.length = a.w.c.ms.length /\ 1 <= a.w.c.ms.length /\ a.w.c.ms.length <= 40) : DKD a := by
 obtain ⟨hl, h1, h2⟩ := h
 have e1 : wr ((a.w.c.ms.length : Int) - 1) = ((a.w.c.ms.length - 1 : Nat) : Int) := by unfold wr; rw [EM (by omega) (by omega)]; omega
 have e2 : IntKind.i64.wrap ((a.w.c.ms.length : Int) - 1) = ((a.w.c.ms.length - 1 : Nat) : Int) := e1
 have gl : (MQ a.w).length = a.w.c.ms.length - 1 := rng_length _ _
 have gg : ∀ {j : Nat}, j < a.w.c.ms.length - 1 -> gD (MQ a.w) j = GD a.w j := λ hj => CB _ _ _ hj
 have lo : ∀ k, (GD a.w k).lo = IntKind.i64.wrap (a.w.c.p.lo * IntKind.i64.wrap ((gD a.w.c.ms (k + 1)).pl - (gD a.w.c.ms k).pl)) := λ _ => rfl
 have hi1 : ∀ k, a.w.sp k = true -> (GD a.w k).hi = 200000000 := λ k h => by unfold GD; rw [h]; rfl
 have hi0 : ∀ k, a.w.sp k = false -> (GD a.w k).hi = IntKind.i64.wrap (a.w.c.p.hi * IntKind.i64.wrap ((gD a.w.c.ms (k + 1)).pl - (gD a.w.c.ms k).pl)) := λ k h => by unfold GD; rw [h]; rfl
 have ws : ∀ {k : Nat}, k < 40 -> IntKind.i64.wrap ((k : Int) + 1) = ((k + 1 : Nat) : Int) := λ h => GC (by omega)
 rw [DNA]; delta CHQ iD CJO CJZ CEH GJ GG GI GH GF BWM M1 BUR CAK BYF Zm AAR Y0 BOW BYA BPB Pj BQP Sk BNV BTS Up BXW Ns DX BKY EA ABZ BNB BWN BXO BOR BVP BPW BPH BQE BJK BUT Dl FP FD EY FG FM FQ BUV CW z_nar_52 BOJ ADX BXH BYT BLQ Vz BKW DH QZ BOU BSI BRW AAX ACL BRC BZJ MK CAM Vs ABD BPY Y5 Pg CAD BPL BNE CAI Ff BRK Y7 R4 Gr BNY Fu BWV BUJ BYD BPO N8 AAT W0 Wq BLF BWE BTZ BZX BNK EQ jB ANV AQZ ASN AYH BAC BEF BCJ fL lS Ck SM Dc AMF BDN APE AYM mM AIJ AKO AOF; simp only [CC, eq_self, implies_true, forall_const]; simp only [e1, e2, gl, hl]
 refine ⟨by omega, ⟨⟨default, trivial⟩, ⟨λ h0 => ?_, λ h0 => ⟨default, by omega⟩⟩, λ k hk => ⟨λ hlt => ?_, λ hge => ⟨default, by omega, Nat.le_refl _, λ j hj => by rw [gg hj]; exact ⟨rfl, rfl⟩⟩⟩⟩, ⟨default, trivial⟩, ⟨0, ⟨rfl, λ i hi => ?_⟩, Nat.zero_le _⟩, λ k hk => ⟨λ hlt => ?_, λ hge => ⟨⟨0, ⟨?_, λ i hi => ?_⟩, Nat.zero_le _⟩, λ j hj => ⟨λ hlt => ?_, λ hlt => ?_⟩⟩⟩⟩
 ·simp only [ws (show (0 : Nat) < 40 by omega), Int.toNat_natCast]
  refine ⟨by omega, by omega, by omega, λ h => ⟨by simp, 1, ⟨rfl, rfl, rfl, λ i hi => ?_⟩, by omega, by omega⟩, λ h => ⟨by simp, 1, ⟨rfl, rfl, rfl, λ i hi => ?_⟩, by omega, by omega⟩⟩
  ·obtain rfl : i = 0 := by omega
   exact ⟨lo 0, hi1 0 h⟩
  ·obtain rfl : i = 0 := by omega
   exact ⟨lo 0, hi0 0 h⟩
 ·simp only [ws (show k < 40 by omega), Int.toNat_natCast]
  refine ⟨by omega, by omega, by omega, λ h => ⟨⟨by omega, (λ h => by cases h), by omega, by omega⟩, k + 1, ⟨rfl, rfl, rfl, λ i hi => ?_⟩, by omega, by omega⟩, λ h => ⟨⟨by omega, (λ h => by cases h), by omega, by omega⟩, k + 1, ⟨rfl, rfl, rfl, λ i hi => ?_⟩, by omega, by omega⟩⟩
  ·by_cases q : i < k
   ·simp only [q, decide_true, cond_true, and_self]
   ·obtain rfl : i = k := by omega
    simp only [q, decide_false, cond_false]
    exact ⟨lo i, hi1 i h⟩
  ·by_cases q : i < k
   ·simp only [q, decide_true, cond_true, and_self]
   ·obtain rfl : i = k := by omega
    simp only [q, decide_false, cond_false]
    exact ⟨lo i, hi0 i h⟩
 ·by_cases q : i = 0
  ·subst q; exact ⟨rfl, rfl⟩
  ·have : ¬ i <= 0 := by omega
   simp only [nrF, this, decide_false, cond_false, and_self]
 ·simp only [ws (show k < 40 by omega)]
  refine ⟨by omega, ⟨by omega, by omega, by omega, by omega, λ i hi => by rw [CB _ _ _ hi]; exact ⟨rfl, rfl⟩, by omega, by omega⟩, k + 1, ⟨rfl, λ i hi => ?_⟩, by omega, by omega⟩
  have e := DEG a (k := k) (i := i) (by omega) (by omega)
  rw [gg (by omega), e, hl]; exact ⟨rfl, rfl⟩
 ·rw [EM (by omega) (by omega)]; omega
 ·obtain rfl : k = a.w.c.ms.length - 1 := by omega
  have q1 : decide (i <= a.w.c.ms.length - 1) = true := by rw [decide_eq_true_eq]; omega
  unfold nrB nrF; rw [q1]
  by_cases q : a.w.c.ms.length - 1 - 0 <= i
  ·have q2 : a.w.c.ms.length - 1 - i = 0 := by omega
   have q3 : i = a.w.c.ms.length - 1 := by omega
   simp only [q, decide_true, cond_true, q2, bkM]; rw [<- q3]; exact ⟨rfl, rfl⟩
  ·simp only [q, decide_false, cond_false, cond_true, and_self]
 ·have g0 : (a.w.c.ms.length : Int) - 2 - j = ((a.w.c.ms.length - 2 - j : Nat) : Int) := by omega
  have g1 : IntKind.i64.wrap (((a.w.c.ms.length - 2 - j : Nat) : Int) + 1) = ((a.w.c.ms.length - 2 - j + 1 : Nat) : Int) := ws (by omega)
  simp only [g0, g1, Int.toNat_natCast]
  refine ⟨⟨by omega, by omega, by omega, by omega, by omega, by omega, λ i hi => by rw [CB _ _ _ hi]; exact ⟨rfl, rfl⟩, by omega, by omega⟩, j + 1, ⟨?_, λ i hi => ?_⟩, by omega, by omega⟩
  ·rw [EM (by omega) (by omega)]; omega
  ·have e := DEC a (j := j) (i := i) hl (by omega) (by omega)
   rw [gg (by omega), e, hl]; exact ⟨rfl, rfl⟩
 ·have q : j = a.w.c.ms.length - 1 := by omega
  have eq1 : ∀ i, i < a.w.c.ms.length -> gD (MN a.w a.l) i = nrB a j i := λ i hi => by
   unfold MN; rw [CB _ _ _ (by omega), hl]
   have q2 : decide (a.w.c.ms.length - 1 - j <= i) = true := by rw [decide_eq_true_eq]; omega
   unfold nrB; rw [q2]; rfl
  have nl : (MN a.w a.l).length = a.w.c.ms.length := by unfold MN; rw [rng_length, hl]
  refine ⟨⟨λ i hi => by rw [CB _ _ _ hi]; exact ⟨rfl, rfl⟩, λ i hi => by rw [CB _ _ _ hi]; exact ⟨rfl, rfl⟩, by omega⟩, nl, Nat.le_refl _, λ i hi => by rw [eq1 i (by omega)]; exact ⟨rfl, rfl⟩, ?_⟩
  congr 1
  exact DCN (by rw [nl, rng_length]) λ i hi => by rw [eq1 i (by omega), CB _ _ _ (by omega)]
theorem CQC : AP Try.prog UU (C_nar.spec dDkS) := MC C_nar DLM [] [2016] COJ (λ _ => by kernel_rfl) (λ _ => AD CZA (AD CTS (AD DGQ (AD DPV AK)))) (λ a h => DSY a h) (λ a => DKJ pH (DJL a) rfl rfl AK COC (by kernel_rfl) (by kernel_rfl)) _
end Go.Bal
