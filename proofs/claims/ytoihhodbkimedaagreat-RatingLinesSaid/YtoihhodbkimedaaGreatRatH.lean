/- Package rating: the least and the greatest flow at a stage. -/
import Derived.Test.YtoihhodbkimedaaGreatRatG
set_option linter.unusedVariables false
set_option linter.unusedSimpArgs false
namespace Go.Bal
open Go Go.Sym Go.Proofs
def F4 (p q : Rt) : Int := JH (wr (p.n * q.d)) (wr (q.n * p.d))
def AQC := pD dR2 λ x => .bool (decide (F4 x.lo x.hi < 0))
def AMS := pD dR2 λ x => .bool (decide (F4 x.lo x.hi > 0))
def A_lm : Ann := ann 9 [(Me, zN)]
def BAI (a : Bnd) : Prop := AO Try.prog A_lm ASD (AF ASD) (xR2 a) (AC []) (.bool (decide (F4 a.lo a.hi < 0))) [] [] []
theorem BFU (a : Bnd) : (BAI a) = (decide (F4 a.lo a.hi < 0) = decide (JH (wr (a.lo.n * a.hi.d)) (wr (a.hi.n * a.lo.d)) < 0)) := by kernel_rfl
def BCI (a : Bnd) : Prop := AO Try.prog A_lm ANO (AF ANO) (xR2 a) (AC []) (.bool (decide (F4 a.lo a.hi > 0))) [] [] []
theorem BIC (a : Bnd) : (BCI a) = (decide (F4 a.lo a.hi > 0) = decide (JH (wr (a.lo.n * a.hi.d)) (wr (a.hi.n * a.lo.d)) > 0)) := by kernel_rfl
theorem BHV : AG Try.prog GF AQC := EB xR2 hR2 λ g _ => JZ (A := A_lm) (ren := []) (fz := []) BHF (by kernel_rfl) (AB Cc AE) (by
 show BAI g; rw [BFU]; rfl)
theorem BMC : AG Try.prog GH AMS := EB xR2 hR2 λ g _ => JZ (A := A_lm) (ren := []) (fz := []) BII (by kernel_rfl) (AB Cc AE) (by
 show BCI g; rw [BIC]; rfl)
def BSF : AVal := .agg [.fn (.func GF) [] []]
def BQT : AVal := .agg [.fn (.func GH) [] []]
def d0 : List AVal -> Heap -> Option (One × List (Nat × Nat) × List Nat)
 | [], _ => some (default, [], [])
 | _, _ => none
def C_less : Ctr := { α := One, xs := λ _ => [], L := λ _ => [], val := λ _ => BSF, keep := λ _ => [] }
def C_more : Ctr := { α := One, xs := λ _ => [], L := λ _ => [], val := λ _ => BQT, keep := λ _ => [] }
def BLD (_x : One) : Prop := AO Try.prog (ann 2 []) AWY (AF AWY) [] (AC []) BSF [] [] []
theorem BML (_x : One) : (BLD _x) = (True) := by kernel_rfl
def BFY (_x : One) : Prop := AO Try.prog (ann 2 []) AXM (AF AXM) [] (AC []) BQT [] [] []
theorem BON (_x : One) : (BFY _x) = (True) := by kernel_rfl
def dAL : List AVal -> Option LnI
 | [.d (.iface 72 (.agg [.v (.int .i64 a), .v (.int .i64 b), .v (.int .i64 c), .v (.int .i64 d)])), .d (.v (.int .i64 s))] => some ⟨⟨a, b, c, d⟩, s⟩
 | _ => none
def xAL (a : LnI) : List AVal := [.d (.iface 72 (eLn a.x)), .int a.s]
def AYY := pD dAL (λ a => .d (sX (FW a.x a.s))) (λ a => [HY a.x, 0 <= a.s /\ a.s <= 2000])
def BGA (a : LnI) : Prop := AO Try.prog (ann 8 [(iW, H6)]) iE (AF iE) (xAL a) (AC []) (.d (sX (FW a.x a.s))) [] [] []
theorem BMT (a : LnI) : (BGA a) = (((0 <= a.x.a0 /\ a.x.a0 < a.x.b0 /\ a.x.b0 <= 2000 /\ 0 <= a.x.a1 /\ a.x.a1 <= a.x.b1 /\ a.x.b1 <= 200000) /\ 0 <= a.s /\ a.s <= 2000) /\ (FW a.x a.s).n = (FW a.x a.s).n /\ (FW a.x
 a.s).d = (FW a.x a.s).d) := by kernel_rfl
theorem BNW : AG Try.prog AVS (C_less.spec d0) := GD C_less (λ _ => ann 2 []) [] [] BQJ (λ _ => by kernel_rfl) (λ _ => AE) (λ (x : One) _ => by
 show BLD x; rw [BML]; trivial) (λ _ => GJ rfl rfl) _
theorem BQB : AG Try.prog AWZ (C_more.spec d0) := GD C_more (λ _ => ann 2 []) [] [] BOV (λ _ => by kernel_rfl) (λ _ => AE) (λ (x : One) _ => by
 show BFY x; rw [BON]; trivial) (λ _ => GJ rfl rfl) _
theorem hAL (xs : List AVal) (a : LnI) (h : dAL xs = some a) : xs = xAL a := by
 unfold dAL at h; split at h <;> cases h; rfl
theorem ALI : AG Try.prog Nq AYY := EB xAL hAL λ a h => JZ (A := ann 8 [(iW, H6)]) (ren := []) (fz := []) AUZ (by kernel_rfl) (AB ATS AE) (by
 show BGA a; rw [BMT]; exact ⟨⟨h.1, h.2⟩, rfl, rfl⟩)
def hG (lt : Rt -> Rt -> Bool) (t : Int) (b x : Ln) : Ln := bif lt (FW x t) (FW b t) then x else b
def AW (lt : Rt -> Rt -> Bool) (t : Int) (l : List Ln) (i : Nat) : Ln := (l.take i).foldl (hG lt t) (gD l 0)
def Rn (lt : Rt -> Rt -> Bool) (t : Int) (l : List Ln) : Ln := l.foldl (hG lt t) (gD l 0)
def SS (p q : Rt) : Bool := decide (F4 p q < 0)
def SZ (p q : Rt) : Bool := decide (F4 p q > 0)
structure BkT where
 w : Bk
 st : Int
def kB (a : BkT) : Int := FA a.w.b a.st
def lB (a : BkT) : List Ln := JO (NW a.w (kB a)) a.st
def dBkT (n : FuncId) : List AVal -> Heap -> Option (BkT × List (Nat × Nat) × List Nat)
 | [.bptr id _, .d t, .agg [.fn (.func g) [] []]], H => if g = n then match AKG H id with
  | some (w, q) => some (⟨w, CT t⟩, [(100, id), (101, q)], [])
  | none => none else none
 | _, _ => none
def bvL (x : Ln) (b : Bool) : AVal := .tup [.d (eLn x), .bool b]
def be6 (lt : Rt -> Rt -> Bool) (n : FuncId) (a : BkT) : Shape := { α := Nat, dflt := 0, T := λ i => ⟨[(1, .int a.st), (5, .bptr 1000 0), (6, .bptr 1016 0), (9, .bptr 5048 0), (29, .d (XW (lB a))), (30, .int (lB a).length), (31, .int i)], bkK (BY a.w (kB a)) ++ [(1000, .live (.box [.fn (.func n) [] []])), (1016, zLn), (5048, .live (.box [.int (AW lt a.st (lB a) i).a0, .int (AW lt a.st (lB a) i).a1, .int (AW lt a.st (lB a) i).b0, .int (AW lt a.st (lB a) i).b1]))]⟩, inv := λ i => i <= (lB a).length, meas := λ i => (lB a).length - i }
def JQ (lt : Rt -> Rt -> Bool) (n : FuncId) : Ctr := { ro := [100], α := BkT, xs := λ a => [.bptr 100 0, .int a.st, .agg [.fn (.func n) [] []]], L := λ a => bkL a.w, val := λ a => bvL (bif decide ((lB a).length = 0) then default else Rn lt a.st (lB a)) (decide ((lB a).length ≠ 0)), keep := λ a => bkK (BY a.w (kB a)), pre := λ a => [GP a.w.g a.w.b /\ 0 <= a.st /\ a.st <= 2000] }
def ASL (lt : Rt -> Rt -> Bool) (n : FuncId) (f : Sym.Spec) (a : BkT) : Ann := { ann 49 [(yQ, C_part.spec dIX), (eS, C_lns.spec dBkS), (Nq, AYY), (n, f)] with E := [100, 101], loops := λ id => if id = 6 then some [be6 lt n a] else none }
def BBY (a : BkT) : Prop := AO Try.prog (ASL SS GF AQC a) AHR (AF AHR) ((JQ SS GF).xs a) (AC ((JQ SS GF).L a)) ((JQ SS GF).val a) ((JQ SS GF).keep a) [] []
abbrev KH (a : BkT) : List Int := AD a.w.b.length λ (i : Nat) => gD a.w.b i
abbrev XJ (a : BkT) : Nat := (KH a).length
abbrev B9 (a : BkT) : Prop := XJ a = a.w.b.length
abbrev oH (a : BkT) : Prop := ∀ (i : Nat), i < XJ a -> gD (KH a) i = gD a.w.b i
abbrev uF (a : BkT) : Prop := List.Pairwise (λ (x1 x2 : Int) => x1 < x2) (KH a)
abbrev UW (a : BkT) : Nat := FA (KH a) a.st
abbrev UC (a : BkT) : List Gau := AD a.w.g.length λ (i : Nat) => gD a.w.g i
abbrev Kx (a : BkT) : Nat := (UC a).length
abbrev Mb (a : BkT) (i : Nat) : Gau := gD (UC a) i
abbrev zE : Value := Value.slice none (0 : Nat) (0 : Nat)
abbrev IE : Prop := zE = zE
abbrev Bp (a : BkT) : Bk := Bk.mk (UC a) (KH a) a.w.has a.w.st
abbrev cR (a : BkT) (n : Int) : List Ln := AI (Bp a) n
abbrev Yy (a : BkT) (n : Int) : Nat := (cR a n).length
abbrev PZ (a : BkT) (n : Int) (i : Nat) : Ln := gD (cR a n) i
abbrev KD (a : BkT) : Bk := BY (Bp a) (↑(UW a) : Int)
abbrev dV (a : BkT) : List Gau := (KD a).g
abbrev Bt (a : BkT) (i : Nat) : Gau := gD (dV a) i
abbrev Xr (a : BkT) : List Int := (KD a).b
abbrev Bm (a : BkT) : Prop := (0 : Int) <= a.st /\ a.st <= (2000 : Int)
abbrev Ay (a : BkT) : List Ln := JO (sB (BkS.mk (Bp a) (↑(UW a) : Int) a.st)) a.st
abbrev RZ (a : BkT) : Nat := (Ay a).length
abbrev PV (a : BkT) : Ln := bif decide ((lB a).length = (0 : Nat)) then default else Rn SS a.st (lB a)
abbrev Yd (a : BkT) : Int := (PV a).a0
abbrev Wb (a : BkT) : Int := (PV a).a1
abbrev bG (a : BkT) : Int := (PV a).b0
abbrev Tk (a : BkT) : Int := (PV a).b1
abbrev Xc (a : BkT) : Bool := decide ((lB a).length ≠ (0 : Nat))
abbrev Ve (a : BkT) : Prop := (BY a.w (kB a)).g.length = a.w.g.length
abbrev cS (i : Nat) (a : BkT) : Prop := i < (BY a.w (kB a)).g.length
abbrev YQ (a : BkT) (i : Nat) : Gau := gD (BY a.w (kB a)).g i
abbrev Ct (a : BkT) (i : Nat) : Int := (YQ a i).st
abbrev Dp (a : BkT) (i : Nat) : Int := (YQ a i).lo
abbrev Cn (a : BkT) (i : Nat) : Int := (YQ a i).hi
abbrev Zf (a : BkT) : Prop := ∀ (i : Nat), cS i a -> Ct a i = (gD a.w.g i).st /\ Dp a i = (gD a.w.g i).lo /\ Cn a i = (gD a.w.g i).hi
abbrev bO (a : BkT) : Prop := (BY a.w (kB a)).b.length = a.w.b.length
abbrev Yl (i : Nat) (a : BkT) : Prop := i < (BY a.w (kB a)).b.length
abbrev YD (a : BkT) (i : Nat) : Int := gD (BY a.w (kB a)).b i
abbrev Sl (a : BkT) : Prop := ∀ (i : Nat), Yl i a -> YD a i = gD a.w.b i
abbrev dG (a : BkT) : Prop := ∀ (n : Int), (BY a.w (kB a)).has n = (KD a).has n
abbrev aQ (a : BkT) : Prop := ∀ (n : Int), (BY a.w (kB a)).st n = (KD a).st n
abbrev Uu (a : BkT) (n : Int) : List Ln := AI (KD a) n
abbrev Vf (i : Nat) (a : BkT) (n : Int) : Prop := i < (AI (BY a.w (kB a)) n).length
abbrev RV (a : BkT) (n : Int) (i : Nat) : Ln := gD (AI (BY a.w (kB a)) n) i
abbrev Bl (a : BkT) (n : Int) (i : Nat) : Int := (RV a n i).a0
abbrev QY (a : BkT) (n : Int) (i : Nat) : Ln := gD (Uu a n) i
abbrev Ae (a : BkT) (n : Int) (i : Nat) : Int := (RV a n i).a1
abbrev YN (a : BkT) (n : Int) (i : Nat) : Int := (RV a n i).b0
abbrev Ac (a : BkT) (n : Int) (i : Nat) : Int := (RV a n i).b1
abbrev Vx (a : BkT) : Prop := ∀ (n : Int), (AI (BY a.w (kB a)) n).length = (Uu a n).length /\ ∀ (i : Nat), Vf i a n -> Bl a n i = (QY a n i).a0 /\ Ae a n i = (QY a n
 i).a1 /\ YN a n i = (QY a n i).b0 /\ Ac a n i = (QY a n i).b1
abbrev RC (a : BkT) (i : Nat) : Ln := gD (Ay a) i
abbrev CX : Prop := Int.ofNat (0 : Nat) = Int.ofNat (0 : Nat)
abbrev QB (a : BkT) : Ln := gD (Ay a) (Int.toNat (0 : Int))
abbrev Zo (a : Nat) (a1 : BkT) : Prop := (↑a : Int) < (↑(lB a1).length : Int)
abbrev aO (a : BkT) : Prop := (lB a).length = (lB a).length
abbrev Zg (a : BkT) : Prop := ∀ (i : Nat), i < (lB a).length -> (gD (lB a) i).a0 = (gD (lB a) i).a0 /\ (gD (lB a) i).a1 = (gD (lB a) i).a1 /\ (gD (lB a) i).b0 = (gD (lB a) i).b0 /\ (gD (lB a) i).b1 = (gD (lB a) i).b1
abbrev Vb (a : BkT) : Prop := (↑(lB a).length : Int) = (↑(lB a).length : Int)
abbrev Wj (a : Nat) (a1 : Nat) : Prop := (↑a : Int) = IntKind.i64.wrap ((↑a1 : Int) + (1 : Int))
abbrev ZF (a : BkT) : Prop := (BY a.w (kB a)).g.length = (BY a.w (kB a)).g.length
abbrev YM (a : BkT) : Prop := ∀ (i : Nat), cS i a -> Ct a i = Ct a i /\ Dp a i = Dp a i /\ Cn a i = Cn a i
abbrev YZ (a : BkT) : Prop := (BY a.w (kB a)).b.length = (BY a.w (kB a)).b.length
abbrev ZB (a : BkT) : Prop := ∀ (i : Nat), Yl i a -> YD a i = YD a i
abbrev YB (a : BkT) : Prop := ∀ (n : Int), (BY a.w (kB a)).has n = (BY a.w (kB a)).has n
abbrev Db (a : BkT) : Prop := ∀ (n : Int), (BY a.w (kB a)).st n = (BY a.w (kB a)).st n
abbrev YH (a : BkT) : Prop := ∀ (n : Int), (AI (BY a.w (kB a)) n).length = (AI (BY a.w (kB a)) n).length /\ ∀ (i : Nat), Vf i a n -> Bl a n i = Bl a n i /\ Ae a n i = Ae a
 n i /\ YN a n i = YN a n i /\ Ac a n i = Ac a n i
abbrev cU (a : BkT) (a1 : Nat) : Nat := (lB a).length - a1
abbrev bH (a : Nat) (a1 : BkT) (a2 : Nat) : Prop := a.le (lB a1).length /\ cU a1 a < cU a1 a2
theorem BGB (a : BkT) : (BBY a) = ((B9 a /\ oH a /\ a.st = a.st /\ (XJ a < (4611686018427387904 : Nat) /\ uF a) /\ (↑(UW a) : Int) = (↑(UW a) : Int) /\ a.st = a.st /\ Kx
 a = a.w.g.length /\ (∀ (i : Nat), i < Kx a -> (Mb a i).st = (gD a.w.g i).st /\ (Mb a i).lo = (gD a.w.g i).lo /\ (Mb a i).hi = (gD a.w.g i).hi) /\ B9 a /\ oH a /\ IE /\ (∀ (n :
 Int), a.w.has n = a.w.has n) /\ (∀ (n : Int), a.w.st n = a.w.st n) /\ (∀ (n : Int), Yy a n = (AI a.w n).length /\ ∀ (i : Nat), i < Yy a n -> (PZ a n i).a0 = (gD (AI a.w n) i).a0 /\ (PZ a n
 i).a1 = (gD (AI a.w n) i).a1 /\ (PZ a n i).b0 = (gD (AI a.w n) i).b0 /\ (PZ a n i).b1 = (gD (AI a.w n) i).b1) /\ a.w.g.length = (dV a).length /\ (∀ (i : Nat), i < a.w.g.length -> (gD a.w.g i).st =
 (Bt a i).st /\ (gD a.w.g i).lo = (Bt a i).lo /\ (gD a.w.g i).hi = (Bt a i).hi) /\ a.w.b.length = (Xr a).length /\ (∀ (i : Nat), i < a.w.b.length -> gD a.w.b i = gD (Xr a) i) /\
 (Kx a <= (24 : Nat) /\ (∀ (x : Gau), List.Mem x (UC a) -> (0 : Int) <= x.st /\ x.st <= (2000 : Int) /\ (0 : Int) <= x.lo /\ x.lo <= x.hi /\ x.hi <= (200000 : Int)) /\ XJ a <= (24 : Nat) /\ uF a /\ ∀ (x :
 Int), List.Mem x (KH a) -> (1 : Int) <= x /\ x <= (2000 : Int)) /\ Bm a) /\ bif (↑(RZ a) : Int) == (0 : Int) then Yd a = (0 : Int) /\ Wb a = (0 : Int) /\ bG a = (0 : Int) /\
 Tk a = (0 : Int) /\ Xc a = false /\ Ve a /\ Zf a /\ bO a /\ Sl a /\ IE /\ dG a /\ aQ a /\ Vx a else ((0 : Int) <= (0 : Int) /\ (0 : Int) <
 (↑(RZ a) : Int)) /\ (∃ (a_1 : Nat), (a.st = a.st /\ (lB a).length = RZ a /\ (∀ (i : Nat), i < (lB a).length -> (gD (lB a) i).a0 = (RC a i).a0 /\ (gD (lB a) i).a1 = (RC a i).a1 /\ (gD (lB a)
 i).b0 = (RC a i).b0 /\ (gD (lB a) i).b1 = (RC a i).b1) /\ (↑(lB a).length : Int) = (↑(RZ a) : Int) /\ (↑a_1 : Int) = (0 : Int) /\ Ve a /\ Zf a /\ bO a /\ Sl a /\ IE
 /\ dG a /\ aQ a /\ Vx a /\ CX /\ CX /\ CX /\ CX /\ (AW SS a.st (lB a) a_1).a0 = (QB a).a0 /\ (AW SS a.st (lB a) a_1).a1 = (QB a).a1 /\ (AW SS a.st
 (lB a) a_1).b0 = (QB a).b0 /\ (AW SS a.st (lB a) a_1).b1 = (QB a).b1) /\ a_1.le (lB a).length) /\ ∀ (a_1 : Nat), a_1.le (lB a).length -> bif decide (Zo a_1 a) then ((0 : Int) <= (↑a_1 : Int) /\
 Zo a_1 a) /\ (((0 : Int) <= (gD (lB a) a_1).a0 /\ (gD (lB a) a_1).a0 < (gD (lB a) a_1).b0 /\ (gD (lB a) a_1).b0 <= (2000 : Int) /\ (0 : Int) <= (gD (lB a) a_1).a1 /\ (gD (lB a) a_1).a1 <= (gD (lB a) a_1).b1 /\ (gD (lB a)
 a_1).b1 <= (200000 : Int)) /\ Bm a /\ ((0 : Int) <= (AW SS a.st (lB a) a_1).a0 /\ (AW SS a.st (lB a) a_1).a0 < (AW SS a.st (lB a) a_1).b0 /\ (AW SS a.st (lB a) a_1).b0 <= (2000 : Int) /\ (0 : Int) <=
 (AW SS a.st (lB a) a_1).a1 /\ (AW SS a.st (lB a) a_1).a1 <= (AW SS a.st (lB a) a_1).b1 /\ (AW SS a.st (lB a) a_1).b1 <= (200000 : Int)) /\ Bm a) /\ bif decide (F4 (FW (gD (lB a) a_1) a.st) (FW
 (AW SS a.st (lB a) a_1) a.st) < (0 : Int)) then ∃ (a_3 : Nat), (a.st = a.st /\ aO a /\ Zg a /\ Vb a /\ Wj a_3 a_1 /\ ZF a /\ YM a /\ YZ a /\ ZB a /\ IE /\
 YB a /\ Db a /\ YH a /\ CX /\ CX /\ CX /\ CX /\ (AW SS a.st (lB a) a_3).a0 = (gD (lB a) a_1).a0 /\ (AW SS a.st (lB a) a_3).a1 = (gD (lB a) a_1).a1 /\ (AW SS a.st
 (lB a) a_3).b0 = (gD (lB a) a_1).b0 /\ (AW SS a.st (lB a) a_3).b1 = (gD (lB a) a_1).b1) /\ bH a_3 a a_1 else ∃ (a_3 : Nat), (a.st = a.st /\ aO a /\ Zg a /\ Vb a /\ Wj a_3 a_1 /\
 ZF a /\ YM a /\ YZ a /\ ZB a /\ IE /\ YB a /\ Db a /\ YH a /\ CX /\ CX /\ CX /\ CX /\ (AW SS a.st (lB a) a_3).a0 = (AW SS a.st
 (lB a) a_1).a0 /\ (AW SS a.st (lB a) a_3).a1 = (AW SS a.st (lB a) a_1).a1 /\ (AW SS a.st (lB a) a_3).b0 = (AW SS a.st (lB a) a_1).b0 /\ (AW SS a.st (lB a) a_3).b1 = (AW SS a.st (lB a) a_1).b1) /\
 bH a_3 a a_1 else Yd a = (AW SS a.st (lB a) a_1).a0 /\ Wb a = (AW SS a.st (lB a) a_1).a1 /\ bG a = (AW SS a.st (lB a) a_1).b0 /\ Tk a = (AW SS a.st (lB a) a_1).b1 /\
 Xc a = true /\ ZF a /\ YM a /\ YZ a /\ ZB a /\ IE /\ YB a /\ Db a /\ YH a) := by kernel_rfl
def BAB (a : BkT) : Prop := AO Try.prog (ASL SZ GH AMS a) AHR (AF AHR) ((JQ SZ GH).xs a) (AC ((JQ SZ GH).L a)) ((JQ SZ GH).val a) ((JQ SZ GH).keep a) [] []
abbrev KL (a : BkT) : List Int := AD a.w.b.length λ (i : Nat) => gD a.w.b i
abbrev WP (a : BkT) : Nat := (KL a).length
abbrev zB (a : BkT) : Prop := WP a = a.w.b.length
abbrev qY (a : BkT) : Prop := ∀ (i : Nat), i < WP a -> gD (KL a) i = gD a.w.b i
abbrev xH (a : BkT) : Prop := List.Pairwise (λ (x1 x2 : Int) => x1 < x2) (KL a)
abbrev WG (a : BkT) : Nat := FA (KL a) a.st
abbrev UO (a : BkT) : List Gau := AD a.w.g.length λ (i : Nat) => gD a.w.g i
abbrev Ol (a : BkT) : Nat := (UO a).length
abbrev Oi (a : BkT) (i : Nat) : Gau := gD (UO a) i
abbrev mL : Value := Value.slice none (0 : Nat) (0 : Nat)
abbrev IG : Prop := mL = mL
abbrev Ah (a : BkT) : Bk := Bk.mk (UO a) (KL a) a.w.has a.w.st
abbrev Tq (a : BkT) (n : Int) : List Ln := AI (Ah a) n
abbrev Xo (a : BkT) (n : Int) : Nat := (Tq a n).length
abbrev QT (a : BkT) (n : Int) (i : Nat) : Ln := gD (Tq a n) i
abbrev MR (a : BkT) : Bk := BY (Ah a) (↑(WG a) : Int)
abbrev Wh (a : BkT) : List Gau := (MR a).g
abbrev YX (a : BkT) (i : Nat) : Gau := gD (Wh a) i
abbrev bL (a : BkT) : List Int := (MR a).b
abbrev YS (a : BkT) : Prop := (0 : Int) <= a.st /\ a.st <= (2000 : Int)
abbrev Cr (a : BkT) : List Ln := JO (sB (BkS.mk (Ah a) (↑(WG a) : Int) a.st)) a.st
abbrev PR (a : BkT) : Nat := (Cr a).length
abbrev QM (a : BkT) : Ln := bif decide ((lB a).length = (0 : Nat)) then default else Rn SZ a.st (lB a)
abbrev Sf (a : BkT) : Int := (QM a).a0
abbrev cV (a : BkT) : Int := (QM a).a1
abbrev Yf (a : BkT) : Int := (QM a).b0
abbrev Su (a : BkT) : Int := (QM a).b1
abbrev Zv (a : BkT) : Bool := decide ((lB a).length ≠ (0 : Nat))
abbrev Xw (a : BkT) : Prop := (BY a.w (kB a)).g.length = a.w.g.length
abbrev Wv (i : Nat) (a : BkT) : Prop := i < (BY a.w (kB a)).g.length
abbrev YF (a : BkT) (i : Nat) : Gau := gD (BY a.w (kB a)).g i
abbrev Ai (a : BkT) (i : Nat) : Int := (YF a i).st
abbrev Dq (a : BkT) (i : Nat) : Int := (YF a i).lo
abbrev YE (a : BkT) (i : Nat) : Int := (YF a i).hi
abbrev Tf (a : BkT) : Prop := ∀ (i : Nat), Wv i a -> Ai a i = (gD a.w.g i).st /\ Dq a i = (gD a.w.g i).lo /\ YE a i = (gD a.w.g i).hi
abbrev bF (a : BkT) : Prop := (BY a.w (kB a)).b.length = a.w.b.length
abbrev Ty (i : Nat) (a : BkT) : Prop := i < (BY a.w (kB a)).b.length
abbrev Cg (a : BkT) (i : Nat) : Int := gD (BY a.w (kB a)).b i
abbrev Xf (a : BkT) : Prop := ∀ (i : Nat), Ty i a -> Cg a i = gD a.w.b i
abbrev Wc (a : BkT) : Prop := ∀ (n : Int), (BY a.w (kB a)).has n = (MR a).has n
abbrev Um (a : BkT) : Prop := ∀ (n : Int), (BY a.w (kB a)).st n = (MR a).st n
abbrev dK (a : BkT) (n : Int) : List Ln := AI (MR a) n
abbrev Uf (i : Nat) (a : BkT) (n : Int) : Prop := i < (AI (BY a.w (kB a)) n).length
abbrev RJ (a : BkT) (n : Int) (i : Nat) : Ln := gD (AI (BY a.w (kB a)) n) i
abbrev Ca (a : BkT) (n : Int) (i : Nat) : Int := (RJ a n i).a0
abbrev PL (a : BkT) (n : Int) (i : Nat) : Ln := gD (dK a n) i
abbrev Cx (a : BkT) (n : Int) (i : Nat) : Int := (RJ a n i).a1
abbrev Ag (a : BkT) (n : Int) (i : Nat) : Int := (RJ a n i).b0
abbrev Aq (a : BkT) (n : Int) (i : Nat) : Int := (RJ a n i).b1
abbrev Uj (a : BkT) : Prop := ∀ (n : Int), (AI (BY a.w (kB a)) n).length = (dK a n).length /\ ∀ (i : Nat), Uf i a n -> Ca a n i = (PL a n i).a0 /\ Cx a n i = (PL a n
 i).a1 /\ Ag a n i = (PL a n i).b0 /\ Aq a n i = (PL a n i).b1
abbrev QQ (a : BkT) (i : Nat) : Ln := gD (Cr a) i
abbrev CW : Prop := Int.ofNat (0 : Nat) = Int.ofNat (0 : Nat)
abbrev RW (a : BkT) : Ln := gD (Cr a) (Int.toNat (0 : Int))
abbrev Ts (a : Nat) (a1 : BkT) : Prop := (↑a : Int) < (↑(lB a1).length : Int)
abbrev aT (a : BkT) : Prop := (lB a).length = (lB a).length
abbrev Xy (a : BkT) : Prop := ∀ (i : Nat), i < (lB a).length -> (gD (lB a) i).a0 = (gD (lB a) i).a0 /\ (gD (lB a) i).a1 = (gD (lB a) i).a1 /\ (gD (lB a) i).b0 = (gD (lB a) i).b0 /\ (gD (lB a) i).b1 = (gD (lB a) i).b1
abbrev aN (a : BkT) : Prop := (↑(lB a).length : Int) = (↑(lB a).length : Int)
abbrev Tw (a : Nat) (a1 : Nat) : Prop := (↑a : Int) = IntKind.i64.wrap ((↑a1 : Int) + (1 : Int))
abbrev Ap (a : BkT) : Prop := (BY a.w (kB a)).g.length = (BY a.w (kB a)).g.length
abbrev Co (a : BkT) : Prop := ∀ (i : Nat), Wv i a -> Ai a i = Ai a i /\ Dq a i = Dq a i /\ YE a i = YE a i
abbrev Dv (a : BkT) : Prop := (BY a.w (kB a)).b.length = (BY a.w (kB a)).b.length
abbrev Cy (a : BkT) : Prop := ∀ (i : Nat), Ty i a -> Cg a i = Cg a i
abbrev Ck (a : BkT) : Prop := ∀ (n : Int), (BY a.w (kB a)).has n = (BY a.w (kB a)).has n
abbrev Dt (a : BkT) : Prop := ∀ (n : Int), (BY a.w (kB a)).st n = (BY a.w (kB a)).st n
abbrev ZU (a : BkT) : Prop := ∀ (n : Int), (AI (BY a.w (kB a)) n).length = (AI (BY a.w (kB a)) n).length /\ ∀ (i : Nat), Uf i a n -> Ca a n i = Ca a n i /\ Cx a n i = Cx a
 n i /\ Ag a n i = Ag a n i /\ Aq a n i = Aq a n i
abbrev Ru (a : BkT) (a1 : Nat) : Nat := (lB a).length - a1
abbrev Vp (a : Nat) (a1 : BkT) (a2 : Nat) : Prop := a.le (lB a1).length /\ Ru a1 a < Ru a1 a2
theorem BGZ (a : BkT) : (BAB a) = ((zB a /\ qY a /\ a.st = a.st /\ (WP a < (4611686018427387904 : Nat) /\ xH a) /\ (↑(WG a) : Int) = (↑(WG a) : Int) /\ a.st = a.st /\ Ol
 a = a.w.g.length /\ (∀ (i : Nat), i < Ol a -> (Oi a i).st = (gD a.w.g i).st /\ (Oi a i).lo = (gD a.w.g i).lo /\ (Oi a i).hi = (gD a.w.g i).hi) /\ zB a /\ qY a /\ IG /\ (∀ (n :
 Int), a.w.has n = a.w.has n) /\ (∀ (n : Int), a.w.st n = a.w.st n) /\ (∀ (n : Int), Xo a n = (AI a.w n).length /\ ∀ (i : Nat), i < Xo a n -> (QT a n i).a0 = (gD (AI a.w n) i).a0 /\ (QT a n
 i).a1 = (gD (AI a.w n) i).a1 /\ (QT a n i).b0 = (gD (AI a.w n) i).b0 /\ (QT a n i).b1 = (gD (AI a.w n) i).b1) /\ a.w.g.length = (Wh a).length /\ (∀ (i : Nat), i < a.w.g.length -> (gD a.w.g i).st =
 (YX a i).st /\ (gD a.w.g i).lo = (YX a i).lo /\ (gD a.w.g i).hi = (YX a i).hi) /\ a.w.b.length = (bL a).length /\ (∀ (i : Nat), i < a.w.b.length -> gD a.w.b i = gD (bL a) i) /\
 (Ol a <= (24 : Nat) /\ (∀ (x : Gau), List.Mem x (UO a) -> (0 : Int) <= x.st /\ x.st <= (2000 : Int) /\ (0 : Int) <= x.lo /\ x.lo <= x.hi /\ x.hi <= (200000 : Int)) /\ WP a <= (24 : Nat) /\ xH a /\ ∀ (x :
 Int), List.Mem x (KL a) -> (1 : Int) <= x /\ x <= (2000 : Int)) /\ YS a) /\ bif (↑(PR a) : Int) == (0 : Int) then Sf a = (0 : Int) /\ cV a = (0 : Int) /\ Yf a = (0 : Int) /\
 Su a = (0 : Int) /\ Zv a = false /\ Xw a /\ Tf a /\ bF a /\ Xf a /\ IG /\ Wc a /\ Um a /\ Uj a else ((0 : Int) <= (0 : Int) /\ (0 : Int) <
 (↑(PR a) : Int)) /\ (∃ (a_1 : Nat), (a.st = a.st /\ (lB a).length = PR a /\ (∀ (i : Nat), i < (lB a).length -> (gD (lB a) i).a0 = (QQ a i).a0 /\ (gD (lB a) i).a1 = (QQ a i).a1 /\ (gD (lB a)
 i).b0 = (QQ a i).b0 /\ (gD (lB a) i).b1 = (QQ a i).b1) /\ (↑(lB a).length : Int) = (↑(PR a) : Int) /\ (↑a_1 : Int) = (0 : Int) /\ Xw a /\ Tf a /\ bF a /\ Xf a /\ IG
 /\ Wc a /\ Um a /\ Uj a /\ CW /\ CW /\ CW /\ CW /\ (AW SZ a.st (lB a) a_1).a0 = (RW a).a0 /\ (AW SZ a.st (lB a) a_1).a1 = (RW a).a1 /\ (AW SZ a.st
 (lB a) a_1).b0 = (RW a).b0 /\ (AW SZ a.st (lB a) a_1).b1 = (RW a).b1) /\ a_1.le (lB a).length) /\ ∀ (a_1 : Nat), a_1.le (lB a).length -> bif decide (Ts a_1 a) then ((0 : Int) <= (↑a_1 : Int) /\
 Ts a_1 a) /\ (((0 : Int) <= (gD (lB a) a_1).a0 /\ (gD (lB a) a_1).a0 < (gD (lB a) a_1).b0 /\ (gD (lB a) a_1).b0 <= (2000 : Int) /\ (0 : Int) <= (gD (lB a) a_1).a1 /\ (gD (lB a) a_1).a1 <= (gD (lB a) a_1).b1 /\ (gD (lB a)
 a_1).b1 <= (200000 : Int)) /\ YS a /\ ((0 : Int) <= (AW SZ a.st (lB a) a_1).a0 /\ (AW SZ a.st (lB a) a_1).a0 < (AW SZ a.st (lB a) a_1).b0 /\ (AW SZ a.st (lB a) a_1).b0 <= (2000 : Int) /\ (0 : Int) <=
 (AW SZ a.st (lB a) a_1).a1 /\ (AW SZ a.st (lB a) a_1).a1 <= (AW SZ a.st (lB a) a_1).b1 /\ (AW SZ a.st (lB a) a_1).b1 <= (200000 : Int)) /\ YS a) /\ bif decide (F4 (FW (gD (lB a) a_1) a.st) (FW
 (AW SZ a.st (lB a) a_1) a.st) > (0 : Int)) then ∃ (a_3 : Nat), (a.st = a.st /\ aT a /\ Xy a /\ aN a /\ Tw a_3 a_1 /\ Ap a /\ Co a /\ Dv a /\ Cy a /\ IG /\
 Ck a /\ Dt a /\ ZU a /\ CW /\ CW /\ CW /\ CW /\ (AW SZ a.st (lB a) a_3).a0 = (gD (lB a) a_1).a0 /\ (AW SZ a.st (lB a) a_3).a1 = (gD (lB a) a_1).a1 /\ (AW SZ a.st
 (lB a) a_3).b0 = (gD (lB a) a_1).b0 /\ (AW SZ a.st (lB a) a_3).b1 = (gD (lB a) a_1).b1) /\ Vp a_3 a a_1 else ∃ (a_3 : Nat), (a.st = a.st /\ aT a /\ Xy a /\ aN a /\ Tw a_3 a_1 /\
 Ap a /\ Co a /\ Dv a /\ Cy a /\ IG /\ Ck a /\ Dt a /\ ZU a /\ CW /\ CW /\ CW /\ CW /\ (AW SZ a.st (lB a) a_3).a0 = (AW SZ a.st
 (lB a) a_1).a0 /\ (AW SZ a.st (lB a) a_3).a1 = (AW SZ a.st (lB a) a_1).a1 /\ (AW SZ a.st (lB a) a_3).b0 = (AW SZ a.st (lB a) a_1).b0 /\ (AW SZ a.st (lB a) a_3).b1 = (AW SZ a.st (lB a) a_1).b1) /\
 Vp a_3 a a_1 else Sf a = (AW SZ a.st (lB a) a_1).a0 /\ cV a = (AW SZ a.st (lB a) a_1).a1 /\ Yf a = (AW SZ a.st (lB a) a_1).b0 /\ Su a = (AW SZ a.st (lB a) a_1).b1 /\
 Zv a = true /\ Ap a /\ Co a /\ Dv a /\ Cy a /\ IG /\ Ck a /\ Dt a /\ ZU a) := by kernel_rfl
theorem Da {lt : Rt -> Rt -> Bool} {t : Int} {l : List Ln} {i : Nat} (h : i < l.length) : AW lt t l (i + 1) = hG lt t (AW lt t l i) (gD l i) := by
 unfold AW; rw [DG h, List.foldl_append]; rfl
theorem rS {lt : Rt -> Rt -> Bool} {t : Int} {l : List Ln} : AW lt t l l.length = Rn lt t l := by unfold AW Rn; rw [List.take_length]
theorem BAT {lt : Rt -> Rt -> Bool} {t : Int} : ∀ (l : List Ln) (b : Ln), (∀ x ∈ l, HY x) -> HY b -> HY (l.foldl (hG lt t) b)
 | [], _, _, hb => hb
 | x :: l, b, h, hb => by
  rw [List.foldl_cons]
  refine BAT l _ (λ y hy => h y (by simp [hy])) ?_
  unfold hG; cases lt (FW x t) (FW b t)
  ·exact hb
  ·exact h x (by simp)
theorem Z3 {lt : Rt -> Rt -> Bool} {t : Int} {l : List Ln} {i : Nat} (h : ∀ x ∈ l, HY x) (h0 : 0 < l.length) : HY (AW lt t l i) :=
 BAT _ _ (λ x hx => h x (List.mem_of_mem_take hx)) (h _ (EG h0))
theorem BNK {s : List Gau} (h : ∀ g ∈ s, Dd g) : ∀ x ∈ Ec s, HY x := λ x hx => by
 unfold Ec at hx
 obtain ⟨p, hp, hx⟩ := List.mem_flatMap.1 hx
 unfold blk at hx
 rcases List.mem_cons.1 hx with rfl | hx
 ·exact ARB (APF h hp)
 ·exact Gy.1 (List.mem_filter.1 hx).2
theorem BTK {s : List Gau} {t : Int} (h : ∀ g ∈ s, Dd g) : ∀ x ∈ JO s t, HY x := λ x hx => by
 rw [zG] at hx
 revert hx
 cases (bif decide ((s.length : Int) > 0) then ((EU s).length : Int) == 0 else false) with
 | true => intro hx; cases hx
 | false =>
  intro hx
  rcases List.mem_append.1 hx with hx | hx
  ·exact BNK h x (List.mem_filter.1 hx).1
  ·have := (List.mem_filter.1 hx).2
   unfold mI at this
   cases hr : FT x with
   | true => exact Gy.1 hr
   | false => rw [hr] at this; cases this
theorem BIJ {a : BkT} (h : GP a.w.g a.w.b) : (lB a).length <= 10098 /\ ∀ x ∈ lB a, HY x := by
 obtain ⟨hs, hN, hg⟩ := BFE (a := ⟨a.w, kB a, a.st⟩) h
 refine ⟨?_, BTK hg⟩
 show (JO (sB ⟨a.w, kB a, a.st⟩) a.st).length <= _
 have h1 := BAF hN
 have h2 := List.length_filter_le (mI (sB ⟨a.w, kB a, a.st⟩)) (CR (sB ⟨a.w, kB a, a.st⟩) a.st)
 have h3 := kR (s := sB ⟨a.w, kB a, a.st⟩) (t := a.st)
 rw [zG]
 cases (bif decide (((sB ⟨a.w, kB a, a.st⟩).length : Int) > 0) then ((EU (sB ⟨a.w, kB a, a.st⟩)).length : Int) == 0 else false) with
 | true => exact Nat.zero_le _
 | false => rw [cond_false, List.length_append]; omega
theorem BOW (a : BkT) (h : GP a.w.g a.w.b) (h2 : 0 <= a.st /\ a.st <= 2000) : BBY a := by
 rw [BGB]; delta KH XJ B9 oH uF UW UC Kx Mb zE IE Bp cR Yy PZ KD dV Bt Xr Bm Ay RZ PV Yd Wb bG Tk Xc Ve cS YQ Ct Dp Cn Zf bO Yl YD Sl dG aQ Uu Vf RV Bl QY Ae YN Ac Vx RC CX QB Zo aO Zg Vb Wj ZF YM YZ ZB YB Db YH cU bH; simp only [CC, eq_self, implies_true, forall_const, JI, show FA a.w.b a.st = kB a from rfl, show (BkS.mk a.w (kB a) a.st).w = a.w from rfl, show JO (sB (BkS.mk a.w (kB a) a.st)) a.st = lB a from rfl, if_true]
 obtain ⟨hl, hok⟩ := BIJ h
 refine ⟨⟨⟨by have := h.2.2.1; omega, h.2.2.2.1⟩, rfl, λ _ _ => ⟨rfl, rfl, rfl⟩, rfl, λ _ _ => rfl, h, h2⟩, λ hc => ?_, λ hc => ?_⟩
 ·have hc : (lB a).length = 0 := by simpa using hc
  rw [decide_eq_true hc]
  exact ⟨rfl, rfl, rfl, rfl, by omega, rfl, λ _ _ => ⟨rfl, rfl, rfl⟩, rfl, λ _ _ => rfl⟩
 ·have hc : (lB a).length ≠ 0 := by simpa using hc
  have hb : ∀ i, HY (AW SS a.st (lB a) i) := λ i => Z3 hok (by omega)
  refine ⟨⟨by omega, by omega⟩, ⟨0, ⟨rfl, rfl, λ _ _ => ⟨rfl, rfl, rfl⟩, rfl, λ _ _ => rfl, rfl, rfl, rfl, rfl⟩, Nat.zero_le _⟩, λ i hi => ⟨λ hlt => ?_, λ hge => ?_⟩⟩
  ·have hlt' : i < (lB a).length := Int.ofNat_lt.1 hlt
   refine ⟨⟨by omega, hlt⟩, ⟨hok _ (EG hlt'), h2, hb i, h2⟩, λ hp => ⟨i + 1, ⟨(BH (by omega)).symm, ?_⟩, hlt', by omega⟩, λ hp => ⟨i + 1, ⟨(BH (by omega)).symm, ?_⟩, hlt', by omega⟩⟩
   ·rw [Da hlt', hG, show SS _ _ = true from decide_eq_true hp]; exact ⟨rfl, rfl, rfl, rfl⟩
   ·rw [Da hlt', hG, show SS _ _ = false from decide_eq_false hp]; exact ⟨rfl, rfl, rfl, rfl⟩
  ·rw [decide_eq_false hc, show i = (lB a).length by omega, rS]
   exact ⟨rfl, rfl, rfl, rfl, hc⟩
theorem BET : AG Try.prog APM ((JQ SS GF).spec (dBkT GF)) := GD (JQ SS GF) (ASL SS GF AQC) [] [] BBV (λ _ => by kernel_rfl) (λ _ => AB iG (AB pS (AB ALI (AB BHV AE)))) (λ (a : BkT) h => by
 have h : GP a.w.g a.w.b /\ 0 <= a.st /\ a.st <= 2000 := h
 exact BOW a h.1 h.2) (λ _ => GJ rfl rfl) _
theorem BPM (a : BkT) (h : GP a.w.g a.w.b) (h2 : 0 <= a.st /\ a.st <= 2000) : BAB a := by
 rw [BGZ]; delta KL WP zB qY xH WG UO Ol Oi mL IG Ah Tq Xo QT MR Wh YX bL YS Cr PR QM Sf cV Yf Su Zv Xw Wv YF Ai Dq YE Tf bF Ty Cg Xf Wc Um dK Uf RJ Ca PL Cx Ag Aq Uj QQ CW RW Ts aT Xy aN Tw Ap Co Dv Cy Ck Dt ZU Ru Vp; simp only [CC, eq_self, implies_true, forall_const, JI, show FA a.w.b a.st = kB a from rfl, show (BkS.mk a.w (kB a) a.st).w = a.w from rfl, show JO (sB (BkS.mk a.w (kB a) a.st)) a.st = lB a from rfl, if_true]
 obtain ⟨hl, hok⟩ := BIJ h
 refine ⟨⟨⟨by have := h.2.2.1; omega, h.2.2.2.1⟩, rfl, λ _ _ => ⟨rfl, rfl, rfl⟩, rfl, λ _ _ => rfl, h, h2⟩, λ hc => ?_, λ hc => ?_⟩
 ·have hc : (lB a).length = 0 := by simpa using hc
  rw [decide_eq_true hc]
  exact ⟨rfl, rfl, rfl, rfl, by omega, rfl, λ _ _ => ⟨rfl, rfl, rfl⟩, rfl, λ _ _ => rfl⟩
 ·have hc : (lB a).length ≠ 0 := by simpa using hc
  have hb : ∀ i, HY (AW SZ a.st (lB a) i) := λ i => Z3 hok (by omega)
  refine ⟨⟨by omega, by omega⟩, ⟨0, ⟨rfl, rfl, λ _ _ => ⟨rfl, rfl, rfl⟩, rfl, λ _ _ => rfl, rfl, rfl, rfl, rfl⟩, Nat.zero_le _⟩, λ i hi => ⟨λ hlt => ?_, λ hge => ?_⟩⟩
  ·have hlt' : i < (lB a).length := Int.ofNat_lt.1 hlt
   refine ⟨⟨by omega, hlt⟩, ⟨hok _ (EG hlt'), h2, hb i, h2⟩, λ hp => ⟨i + 1, ⟨(BH (by omega)).symm, ?_⟩, hlt', by omega⟩, λ hp => ⟨i + 1, ⟨(BH (by omega)).symm, ?_⟩, hlt', by omega⟩⟩
   ·rw [Da hlt', hG, show SZ _ _ = true from decide_eq_true hp]; exact ⟨rfl, rfl, rfl, rfl⟩
   ·rw [Da hlt', hG, show SZ _ _ = false from decide_eq_false hp]; exact ⟨rfl, rfl, rfl, rfl⟩
  ·rw [decide_eq_false hc, show i = (lB a).length by omega, rS]
   exact ⟨rfl, rfl, rfl, rfl, hc⟩
theorem BGR : AG Try.prog APM ((JQ SZ GH).spec (dBkT GH)) := GD (JQ SZ GH) (ASL SZ GH AMS) [] [] BBV (λ _ => by kernel_rfl) (λ _ => AB iG (AB pS (AB ALI (AB BMC AE)))) (λ (a : BkT) h => by
 have h : GP a.w.g a.w.b /\ 0 <= a.st /\ a.st <= 2000 := h
 exact BPM a h.1 h.2) (λ _ => GJ rfl rfl) _
end Go.Bal
