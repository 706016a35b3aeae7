/- Package rating: the least and the greatest flow at a stage. -/
import Derived.Test.YtoihhodbkimedaaRatG
set_option linter.unusedVariables false
set_option linter.unusedSimpArgs false
namespace Go.Bal
open Go Go.Sym Go.Proofs
def Of (p q : Rt) : Int := HJ (wr (p.n * q.d)) (wr (q.n * p.d))
def BEW := pD dR2 λ x => .bool (decide (Of x.lo x.hi < 0))
def BDW := pD dR2 λ x => .bool (decide (Of x.lo x.hi > 0))
def A_lm : Ann := ann 9 [(Si, Q5)]
def BQH (a : Bnd) : Prop := AY Try.prog A_lm BFX (AF BFX) (xR2 a) (AC []) (.bool (decide (Of a.lo a.hi < 0))) [] [] []
theorem CAY (a : Bnd) : (BQH a) = (decide (Of a.lo a.hi < 0) = decide (HJ (wr (a.lo.n * a.hi.d)) (wr (a.hi.n * a.lo.d)) < 0)) := by kernel_rfl
def BQN (a : Bnd) : Prop := AY Try.prog A_lm BFZ (AF BFZ) (xR2 a) (AC []) (.bool (decide (Of a.lo a.hi > 0))) [] [] []
theorem BXT (a : Bnd) : (BQN a) = (decide (Of a.lo a.hi > 0) = decide (HJ (wr (a.lo.n * a.hi.d)) (wr (a.hi.n * a.lo.d)) > 0)) := by kernel_rfl
theorem BYI : AG Try.prog HH BEW := HF xR2 hR2 λ g _ => RD (A := A_lm) (ren := []) (fz := []) BWB (by kernel_rfl) (AB Bc AE) (by
 show BQH g; rw [CAY]; rfl)
theorem BZK : AG Try.prog HG BDW := HF xR2 hR2 λ g _ => RD (A := A_lm) (ren := []) (fz := []) BXB (by kernel_rfl) (AB Bc AE) (by
 show BQN g; rw [BXT]; rfl)
def CIC : AVal := .agg [.fn (.func HH) [] []]
def CJR : AVal := .agg [.fn (.func HG) [] []]
def d0 : List AVal -> Heap -> Option (One × List (Nat × Nat) × List Nat)
 | [], _ => some (default, [], [])
 | _, _ => none
def C_less : Ctr := { α := One, xs := λ _ => [], L := λ _ => [], val := λ _ => CIC, keep := λ _ => [] }
def C_more : Ctr := { α := One, xs := λ _ => [], L := λ _ => [], val := λ _ => CJR, keep := λ _ => [] }
def BWD (_x : One) : Prop := AY Try.prog (ann 2 []) BPO (AF BPO) [] (AC []) CIC [] [] []
theorem CEW (_x : One) : (BWD _x) = (True) := by kernel_rfl
def CAG (_x : One) : Prop := AY Try.prog (ann 2 []) BMU (AF BMU) [] (AC []) CJR [] [] []
theorem CFZ (_x : One) : (CAG _x) = (True) := by kernel_rfl
def dAL : List AVal -> Option LnI
 | [.d (.iface 74 (.agg [.v (.int .i64 a), .v (.int .i64 b), .v (.int .i64 c), .v (.int .i64 d)])), .d (.v (.int .i64 s))] => some ⟨⟨a, b, c, d⟩, s⟩
 | _ => none
def xAL (a : LnI) : List AVal := [.d (.iface 74 (eLn a.x)), .int a.s]
def BPF := pD dAL (λ a => .d (eRt (BI a.x a.s))) (λ a => [DS a.x, 0 <= a.s /\ a.s <= 2000])
def BXE (a : LnI) : Prop := AY Try.prog (ann 8 [(AHA, BCQ)]) BEQ (AF BEQ) (xAL a) (AC []) (.d (eRt (BI a.x a.s))) [] [] []
theorem CGF (a : LnI) : (BXE a) = (((0 <= a.x.a0 /\ a.x.a0 < a.x.b0 /\ a.x.b0 <= 2000 /\ 0 <= a.x.a1 /\ a.x.a1 <= a.x.b1 /\ a.x.b1 <= 200000) /\ 0 <= a.s /\ a.s <= 2000) /\ (BI a.x a.s).n = (BI a.x a.s).n /\ (BI a.x
 a.s).d = (BI a.x a.s).d) := by kernel_rfl
theorem CEK : AG Try.prog BOS (C_less.spec d0) := JX C_less (λ _ => ann 2 []) [] [] CEF (λ _ => by kernel_rfl) (λ _ => AE) (λ (x : One) _ => by
 show BWD x; rw [CEW]; trivial) (λ _ => KJ rfl rfl) _
theorem CEG : AG Try.prog BPB (C_more.spec d0) := JX C_more (λ _ => ann 2 []) [] [] CGU (λ _ => by kernel_rfl) (λ _ => AE) (λ (x : One) _ => by
 show CAG x; rw [CFZ]; trivial) (λ _ => KJ rfl rfl) _
theorem hAL (xs : List AVal) (a : LnI) (h : dAL xs = some a) : xs = xAL a := by
 unfold dAL at h; split at h <;> cases h; rfl
theorem BFU : AG Try.prog AFZ BPF := HF xAL hAL λ a h => RD (A := ann 8 [(AHA, BCQ)]) (ren := []) (fz := []) CBE (by kernel_rfl) (AB BZN AE) (by
 show BXE a; rw [CGF]; exact ⟨⟨h.1, h.2⟩, rfl, rfl⟩)
def IZ (lt : Rt -> Rt -> Bool) (t : Int) (b x : Ln) : Ln := bif lt (BI x t) (BI b t) then x else b
def BD (lt : Rt -> Rt -> Bool) (t : Int) (l : List Ln) (i : Nat) : Ln := (l.take i).foldl (IZ lt t) (gD l 0)
def LM (lt : Rt -> Rt -> Bool) (t : Int) (l : List Ln) : Ln := l.foldl (IZ lt t) (gD l 0)
def PW (p q : Rt) : Bool := decide (Of p q < 0)
def PV (p q : Rt) : Bool := decide (Of p q > 0)
structure BkT where
 w : Bk
 st : Int
def kB (a : BkT) : Int := LI a.w.b a.st
def lB (a : BkT) : List Ln := DW (LD a.w (kB a)) a.st
def dBkT (n : FuncId) : List AVal -> Heap -> Option (BkT × List (Nat × Nat) × List Nat)
 | [.bptr id _, .d t, .agg [.fn (.func g) [] []]], H => if g = n then match BCA H id with
  | some (w, q) => some (⟨w, DK t⟩, [(100, id), (101, q)], [])
  | none => none else none
 | _, _ => none
def bvL (x : Ln) (b : Bool) : AVal := .tup [.d (eLn x), .bool b]
def be6 (lt : Rt -> Rt -> Bool) (n : FuncId) (a : BkT) : Shape := { α := Nat, dflt := 0, T := λ i => ⟨[(1, .int a.st), (5, .bptr 1000 0), (6, .bptr 1016 0), (9, .bptr 5048 0), (29, .d (kI (lB a))), (30, .int (lB a).length), (31, .int i)], bkK (CK a.w (kB a)) ++ [(1000, .live (.box [.fn (.func n) [] []])), (1016, zLn), (5048, .live (.box [.int (BD lt a.st (lB a) i).a0, .int (BD lt a.st (lB a) i).a1, .int (BD lt a.st (lB a) i).b0, .int (BD lt a.st (lB a) i).b1]))]⟩, inv := λ i => i <= (lB a).length, meas := λ i => (lB a).length - i }
def KR (lt : Rt -> Rt -> Bool) (n : FuncId) : Ctr := { ro := [100], α := BkT, xs := λ a => [.bptr 100 0, .int a.st, .agg [.fn (.func n) [] []]], L := λ a => bkL a.w, val := λ a => bvL (bif decide ((lB a).length = 0) then default else LM lt a.st (lB a)) (decide ((lB a).length ≠ 0)), keep := λ a => bkK (CK a.w (kB a)), pre := λ a => [HI a.w.g a.w.b /\ 0 <= a.st /\ a.st <= 2000] }
def BEO (lt : Rt -> Rt -> Bool) (n : FuncId) (f : Sym.Spec) (a : BkT) : Ann := { ann 49 [(BFY, C_part.spec dIX), (oP, C_lns.spec dBkS), (AFZ, BPF), (n, f)] with E := [100, 101], loops := λ id => if id = 6 then some [be6 lt n a] else none }
def BRV (a : BkT) : Prop := AY Try.prog (BEO PW HH BEW a) AXH (AF AXH) ((KR PW HH).xs a) (AC ((KR PW HH).L a)) ((KR PW HH).val a) ((KR PW HH).keep a) [] []
abbrev LO (a : BkT) : List Int := AD a.w.b.length λ (i : Nat) => gD a.w.b i
abbrev YH (a : BkT) : Nat := (LO a).length
abbrev T7 (a : BkT) : Prop := YH a = a.w.b.length
abbrev ACV (a : BkT) : Prop := ∀ (i : Nat), i < YH a -> gD (LO a) i = gD a.w.b i
abbrev AAQ (a : BkT) : Prop := List.Pairwise (λ (x1 x2 : Int) => x1 < x2) (LO a)
abbrev ZR (a : BkT) : Nat := LI (LO a) a.st
abbrev WV (a : BkT) : List Gau := AD a.w.g.length λ (i : Nat) => gD a.w.g i
abbrev Rq (a : BkT) : Nat := (WV a).length
abbrev Uh (a : BkT) (i : Nat) : Gau := gD (WV a) i
abbrev X8 : Value := Value.slice none (0 : Nat) (0 : Nat)
abbrev JQ : Prop := X8 = X8
abbrev Ct (a : BkT) : Bk := Bk.mk (WV a) (LO a) a.w.has a.w.st
abbrev oE (a : BkT) (n : Int) : List Ln := AK (Ct a) n
abbrev Wb (a : BkT) (n : Int) : Nat := (oE a n).length
abbrev UK (a : BkT) (n : Int) (i : Nat) : Ln := gD (oE a n) i
abbrev MN (a : BkT) : Bk := CK (Ct a) (↑(ZR a) : Int)
abbrev kQ (a : BkT) : List Gau := (MN a).g
abbrev Fm (a : BkT) (i : Nat) : Gau := gD (kQ a) i
abbrev iU (a : BkT) : List Int := (MN a).b
abbrev Hg (a : BkT) : Prop := (0 : Int) <= a.st /\ a.st <= (2000 : Int)
abbrev Co (a : BkT) : List Ln := DW (sB (BkS.mk (Ct a) (↑(ZR a) : Int) a.st)) a.st
abbrev RR (a : BkT) : Nat := (Co a).length
abbrev TA (a : BkT) : Ln := bif decide ((lB a).length = (0 : Nat)) then default else LM PW a.st (lB a)
abbrev iH (a : BkT) : Int := (TA a).a0
abbrev nH (a : BkT) : Int := (TA a).a1
abbrev iO (a : BkT) : Int := (TA a).b0
abbrev Xt (a : BkT) : Int := (TA a).b1
abbrev iN (a : BkT) : Bool := decide ((lB a).length ≠ (0 : Nat))
abbrev dZ (a : BkT) : Prop := (CK a.w (kB a)).g.length = a.w.g.length
abbrev lW (i : Nat) (a : BkT) : Prop := i < (CK a.w (kB a)).g.length
abbrev Bt (a : BkT) (i : Nat) : Gau := gD (CK a.w (kB a)).g i
abbrev Em (a : BkT) (i : Nat) : Int := (Bt a i).st
abbrev Fd (a : BkT) (i : Nat) : Int := (Bt a i).lo
abbrev Cg (a : BkT) (i : Nat) : Int := (Bt a i).hi
abbrev Yw (a : BkT) : Prop := ∀ (i : Nat), lW i a -> Em a i = (gD a.w.g i).st /\ Fd a i = (gD a.w.g i).lo /\ Cg a i = (gD a.w.g i).hi
abbrev jC (a : BkT) : Prop := (CK a.w (kB a)).b.length = a.w.b.length
abbrev Zp (i : Nat) (a : BkT) : Prop := i < (CK a.w (kB a)).b.length
abbrev Fj (a : BkT) (i : Nat) : Int := gD (CK a.w (kB a)).b i
abbrev Zq (a : BkT) : Prop := ∀ (i : Nat), Zp i a -> Fj a i = gD a.w.b i
abbrev gJ (a : BkT) : Prop := ∀ (n : Int), (CK a.w (kB a)).has n = (MN a).has n
abbrev kJ (a : BkT) : Prop := ∀ (n : Int), (CK a.w (kB a)).st n = (MN a).st n
abbrev dH (a : BkT) (n : Int) : List Ln := AK (MN a) n
abbrev Wc (i : Nat) (a : BkT) (n : Int) : Prop := i < (AK (CK a.w (kB a)) n).length
abbrev TV (a : BkT) (n : Int) (i : Nat) : Ln := gD (AK (CK a.w (kB a)) n) i
abbrev Dt (a : BkT) (n : Int) (i : Nat) : Int := (TV a n i).a0
abbrev TJ (a : BkT) (n : Int) (i : Nat) : Ln := gD (dH a n) i
abbrev Hi (a : BkT) (n : Int) (i : Nat) : Int := (TV a n i).a1
abbrev Bz (a : BkT) (n : Int) (i : Nat) : Int := (TV a n i).b0
abbrev Av (a : BkT) (n : Int) (i : Nat) : Int := (TV a n i).b1
abbrev fM (a : BkT) : Prop := ∀ (n : Int), (AK (CK a.w (kB a)) n).length = (dH a n).length /\ ∀ (i : Nat), Wc i a n -> Dt a n i = (TJ a n i).a0 /\ Hi a n i = (TJ a n
 i).a1 /\ Bz a n i = (TJ a n i).b0 /\ Av a n i = (TJ a n i).b1
abbrev RX (a : BkT) (i : Nat) : Ln := gD (Co a) i
abbrev DM : Prop := Int.ofNat (0 : Nat) = Int.ofNat (0 : Nat)
abbrev TU (a : BkT) : Ln := gD (Co a) (Int.toNat (0 : Int))
abbrev aH (a : Nat) (a1 : BkT) : Prop := (↑a : Int) < (↑(lB a1).length : Int)
abbrev lO (a : BkT) : Prop := (lB a).length = (lB a).length
abbrev fD (a : BkT) : Prop := ∀ (i : Nat), i < (lB a).length -> (gD (lB a) i).a0 = (gD (lB a) i).a0 /\ (gD (lB a) i).a1 = (gD (lB a) i).a1 /\ (gD (lB a) i).b0 = (gD (lB a) i).b0 /\ (gD (lB a) i).b1 = (gD (lB a) i).b1
abbrev Xv (a : BkT) : Prop := (↑(lB a).length : Int) = (↑(lB a).length : Int)
abbrev gT (a : Nat) (a1 : Nat) : Prop := (↑a : Int) = IntKind.i64.wrap ((↑a1 : Int) + (1 : Int))
abbrev Cb (a : BkT) : Prop := (CK a.w (kB a)).g.length = (CK a.w (kB a)).g.length
abbrev Bg (a : BkT) : Prop := ∀ (i : Nat), lW i a -> Em a i = Em a i /\ Fd a i = Fd a i /\ Cg a i = Cg a i
abbrev Gi (a : BkT) : Prop := (CK a.w (kB a)).b.length = (CK a.w (kB a)).b.length
abbrev Ff (a : BkT) : Prop := ∀ (i : Nat), Zp i a -> Fj a i = Fj a i
abbrev Gw (a : BkT) : Prop := ∀ (n : Int), (CK a.w (kB a)).has n = (CK a.w (kB a)).has n
abbrev Eb (a : BkT) : Prop := ∀ (n : Int), (CK a.w (kB a)).st n = (CK a.w (kB a)).st n
abbrev Gt (a : BkT) : Prop := ∀ (n : Int), (AK (CK a.w (kB a)) n).length = (AK (CK a.w (kB a)) n).length /\ ∀ (i : Nat), Wc i a n -> Dt a n i = Dt a n i /\ Hi a n i = Hi a
 n i /\ Bz a n i = Bz a n i /\ Av a n i = Av a n i
abbrev bY (a : BkT) (a1 : Nat) : Nat := (lB a).length - a1
abbrev bK (a : Nat) (a1 : BkT) (a2 : Nat) : Prop := a.le (lB a1).length /\ bY a1 a < bY a1 a2
theorem BWG (a : BkT) : (BRV a) = ((T7 a /\ ACV a /\ a.st = a.st /\ (YH a < (4611686018427387904 : Nat) /\ AAQ a) /\ (↑(ZR a) : Int) = (↑(ZR a) : Int) /\ a.st = a.st /\ Rq
 a = a.w.g.length /\ (∀ (i : Nat), i < Rq a -> (Uh a i).st = (gD a.w.g i).st /\ (Uh a i).lo = (gD a.w.g i).lo /\ (Uh a i).hi = (gD a.w.g i).hi) /\ T7 a /\ ACV a /\ JQ /\ (∀ (n :
 Int), a.w.has n = a.w.has n) /\ (∀ (n : Int), a.w.st n = a.w.st n) /\ (∀ (n : Int), Wb a n = (AK a.w n).length /\ ∀ (i : Nat), i < Wb a n -> (UK a n i).a0 = (gD (AK a.w n) i).a0 /\ (UK a n
 i).a1 = (gD (AK a.w n) i).a1 /\ (UK a n i).b0 = (gD (AK a.w n) i).b0 /\ (UK a n i).b1 = (gD (AK a.w n) i).b1) /\ a.w.g.length = (kQ a).length /\ (∀ (i : Nat), i < a.w.g.length -> (gD a.w.g i).st =
 (Fm a i).st /\ (gD a.w.g i).lo = (Fm a i).lo /\ (gD a.w.g i).hi = (Fm a i).hi) /\ a.w.b.length = (iU a).length /\ (∀ (i : Nat), i < a.w.b.length -> gD a.w.b i = gD (iU a) i) /\
 (Rq a <= (24 : Nat) /\ (∀ (x : Gau), List.Mem x (WV a) -> (0 : Int) <= x.st /\ x.st <= (2000 : Int) /\ (0 : Int) <= x.lo /\ x.lo <= x.hi /\ x.hi <= (200000 : Int)) /\ YH a <= (24 : Nat) /\ AAQ a /\ ∀ (x :
 Int), List.Mem x (LO a) -> (1 : Int) <= x /\ x <= (2000 : Int)) /\ Hg a) /\ bif (↑(RR a) : Int) == (0 : Int) then iH a = (0 : Int) /\ nH a = (0 : Int) /\ iO a = (0 : Int) /\
 Xt a = (0 : Int) /\ iN a = false /\ dZ a /\ Yw a /\ jC a /\ Zq a /\ JQ /\ gJ a /\ kJ a /\ fM a else ((0 : Int) <= (0 : Int) /\ (0 : Int) <
 (↑(RR a) : Int)) /\ (∃ (a_1 : Nat), (a.st = a.st /\ (lB a).length = RR a /\ (∀ (i : Nat), i < (lB a).length -> (gD (lB a) i).a0 = (RX a i).a0 /\ (gD (lB a) i).a1 = (RX a i).a1 /\ (gD (lB a)
 i).b0 = (RX a i).b0 /\ (gD (lB a) i).b1 = (RX a i).b1) /\ (↑(lB a).length : Int) = (↑(RR a) : Int) /\ (↑a_1 : Int) = (0 : Int) /\ dZ a /\ Yw a /\ jC a /\ Zq a /\ JQ
 /\ gJ a /\ kJ a /\ fM a /\ DM /\ DM /\ DM /\ DM /\ (BD PW a.st (lB a) a_1).a0 = (TU a).a0 /\ (BD PW a.st (lB a) a_1).a1 = (TU a).a1 /\ (BD PW a.st
 (lB a) a_1).b0 = (TU a).b0 /\ (BD PW a.st (lB a) a_1).b1 = (TU a).b1) /\ a_1.le (lB a).length) /\ ∀ (a_1 : Nat), a_1.le (lB a).length -> bif decide (aH a_1 a) then ((0 : Int) <= (↑a_1 : Int) /\
 aH a_1 a) /\ (((0 : Int) <= (gD (lB a) a_1).a0 /\ (gD (lB a) a_1).a0 < (gD (lB a) a_1).b0 /\ (gD (lB a) a_1).b0 <= (2000 : Int) /\ (0 : Int) <= (gD (lB a) a_1).a1 /\ (gD (lB a) a_1).a1 <= (gD (lB a) a_1).b1 /\ (gD (lB a)
 a_1).b1 <= (200000 : Int)) /\ Hg a /\ ((0 : Int) <= (BD PW a.st (lB a) a_1).a0 /\ (BD PW a.st (lB a) a_1).a0 < (BD PW a.st (lB a) a_1).b0 /\ (BD PW a.st (lB a) a_1).b0 <= (2000 : Int) /\ (0 : Int) <=
 (BD PW a.st (lB a) a_1).a1 /\ (BD PW a.st (lB a) a_1).a1 <= (BD PW a.st (lB a) a_1).b1 /\ (BD PW a.st (lB a) a_1).b1 <= (200000 : Int)) /\ Hg a) /\ bif decide (Of (BI (gD (lB a) a_1) a.st) (BI
 (BD PW a.st (lB a) a_1) a.st) < (0 : Int)) then ∃ (a_3 : Nat), (a.st = a.st /\ lO a /\ fD a /\ Xv a /\ gT a_3 a_1 /\ Cb a /\ Bg a /\ Gi a /\ Ff a /\ JQ /\
 Gw a /\ Eb a /\ Gt a /\ DM /\ DM /\ DM /\ DM /\ (BD PW a.st (lB a) a_3).a0 = (gD (lB a) a_1).a0 /\ (BD PW a.st (lB a) a_3).a1 = (gD (lB a) a_1).a1 /\ (BD PW a.st
 (lB a) a_3).b0 = (gD (lB a) a_1).b0 /\ (BD PW a.st (lB a) a_3).b1 = (gD (lB a) a_1).b1) /\ bK a_3 a a_1 else ∃ (a_3 : Nat), (a.st = a.st /\ lO a /\ fD a /\ Xv a /\ gT a_3 a_1 /\
 Cb a /\ Bg a /\ Gi a /\ Ff a /\ JQ /\ Gw a /\ Eb a /\ Gt a /\ DM /\ DM /\ DM /\ DM /\ (BD PW a.st (lB a) a_3).a0 = (BD PW a.st
 (lB a) a_1).a0 /\ (BD PW a.st (lB a) a_3).a1 = (BD PW a.st (lB a) a_1).a1 /\ (BD PW a.st (lB a) a_3).b0 = (BD PW a.st (lB a) a_1).b0 /\ (BD PW a.st (lB a) a_3).b1 = (BD PW a.st (lB a) a_1).b1) /\
 bK a_3 a a_1 else iH a = (BD PW a.st (lB a) a_1).a0 /\ nH a = (BD PW a.st (lB a) a_1).a1 /\ iO a = (BD PW a.st (lB a) a_1).b0 /\ Xt a = (BD PW a.st (lB a) a_1).b1 /\
 iN a = true /\ Cb a /\ Bg a /\ Gi a /\ Ff a /\ JQ /\ Gw a /\ Eb a /\ Gt a) := by kernel_rfl
def BTO (a : BkT) : Prop := AY Try.prog (BEO PV HG BDW a) AXH (AF AXH) ((KR PV HG).xs a) (AC ((KR PV HG).L a)) ((KR PV HG).val a) ((KR PV HG).keep a) [] []
abbrev NB (a : BkT) : List Int := AD a.w.b.length λ (i : Nat) => gD a.w.b i
abbrev ZF (a : BkT) : Nat := (NB a).length
abbrev D1 (a : BkT) : Prop := ZF a = a.w.b.length
abbrev B6 (a : BkT) : Prop := ∀ (i : Nat), i < ZF a -> gD (NB a) i = gD a.w.b i
abbrev D3 (a : BkT) : Prop := List.Pairwise (λ (x1 x2 : Int) => x1 < x2) (NB a)
abbrev YW (a : BkT) : Nat := LI (NB a) a.st
abbrev YB (a : BkT) : List Gau := AD a.w.g.length λ (i : Nat) => gD a.w.g i
abbrev Ua (a : BkT) : Nat := (YB a).length
abbrev Tk (a : BkT) (i : Nat) : Gau := gD (YB a) i
abbrev Y7 : Value := Value.slice none (0 : Nat) (0 : Nat)
abbrev JT : Prop := Y7 = Y7
abbrev Aw (a : BkT) : Bk := Bk.mk (YB a) (NB a) a.w.has a.w.st
abbrev mM (a : BkT) (n : Int) : List Ln := AK (Aw a) n
abbrev aN (a : BkT) (n : Int) : Nat := (mM a n).length
abbrev SX (a : BkT) (n : Int) (i : Nat) : Ln := gD (mM a n) i
abbrev ND (a : BkT) : Bk := CK (Aw a) (↑(YW a) : Int)
abbrev iQ (a : BkT) : List Gau := (ND a).g
abbrev Gd (a : BkT) (i : Nat) : Gau := gD (iQ a) i
abbrev bN (a : BkT) : List Int := (ND a).b
abbrev Bd (a : BkT) : Prop := (0 : Int) <= a.st /\ a.st <= (2000 : Int)
abbrev Ei (a : BkT) : List Ln := DW (sB (BkS.mk (Aw a) (↑(YW a) : Int) a.st)) a.st
abbrev TQ (a : BkT) : Nat := (Ei a).length
abbrev TK (a : BkT) : Ln := bif decide ((lB a).length = (0 : Nat)) then default else LM PV a.st (lB a)
abbrev bH (a : BkT) : Int := (TK a).a0
abbrev Wo (a : BkT) : Int := (TK a).a1
abbrev Xl (a : BkT) : Int := (TK a).b0
abbrev Wn (a : BkT) : Int := (TK a).b1
abbrev Ya (a : BkT) : Bool := decide ((lB a).length ≠ (0 : Nat))
abbrev fT (a : BkT) : Prop := (CK a.w (kB a)).g.length = a.w.g.length
abbrev eM (i : Nat) (a : BkT) : Prop := i < (CK a.w (kB a)).g.length
abbrev Bo (a : BkT) (i : Nat) : Gau := gD (CK a.w (kB a)).g i
abbrev El (a : BkT) (i : Nat) : Int := (Bo a i).st
abbrev Es (a : BkT) (i : Nat) : Int := (Bo a i).lo
abbrev Fl (a : BkT) (i : Nat) : Int := (Bo a i).hi
abbrev cR (a : BkT) : Prop := ∀ (i : Nat), eM i a -> El a i = (gD a.w.g i).st /\ Es a i = (gD a.w.g i).lo /\ Fl a i = (gD a.w.g i).hi
abbrev Zc (a : BkT) : Prop := (CK a.w (kB a)).b.length = a.w.b.length
abbrev bL (i : Nat) (a : BkT) : Prop := i < (CK a.w (kB a)).b.length
abbrev Ch (a : BkT) (i : Nat) : Int := gD (CK a.w (kB a)).b i
abbrev bG (a : BkT) : Prop := ∀ (i : Nat), bL i a -> Ch a i = gD a.w.b i
abbrev dU (a : BkT) : Prop := ∀ (n : Int), (CK a.w (kB a)).has n = (ND a).has n
abbrev Yx (a : BkT) : Prop := ∀ (n : Int), (CK a.w (kB a)).st n = (ND a).st n
abbrev dP (a : BkT) (n : Int) : List Ln := AK (ND a) n
abbrev fN (i : Nat) (a : BkT) (n : Int) : Prop := i < (AK (CK a.w (kB a)) n).length
abbrev TY (a : BkT) (n : Int) (i : Nat) : Ln := gD (AK (CK a.w (kB a)) n) i
abbrev Do (a : BkT) (n : Int) (i : Nat) : Int := (TY a n i).a0
abbrev UA (a : BkT) (n : Int) (i : Nat) : Ln := gD (dP a n) i
abbrev Df (a : BkT) (n : Int) (i : Nat) : Int := (TY a n i).a1
abbrev Ez (a : BkT) (n : Int) (i : Nat) : Int := (TY a n i).b0
abbrev Ey (a : BkT) (n : Int) (i : Nat) : Int := (TY a n i).b1
abbrev Yz (a : BkT) : Prop := ∀ (n : Int), (AK (CK a.w (kB a)) n).length = (dP a n).length /\ ∀ (i : Nat), fN i a n -> Do a n i = (UA a n i).a0 /\ Df a n i = (UA a n
 i).a1 /\ Ez a n i = (UA a n i).b0 /\ Ey a n i = (UA a n i).b1
abbrev RU (a : BkT) (i : Nat) : Ln := gD (Ei a) i
abbrev DJ : Prop := Int.ofNat (0 : Nat) = Int.ofNat (0 : Nat)
abbrev UN (a : BkT) : Ln := gD (Ei a) (Int.toNat (0 : Int))
abbrev nM (a : Nat) (a1 : BkT) : Prop := (↑a : Int) < (↑(lB a1).length : Int)
abbrev iS (a : BkT) : Prop := (lB a).length = (lB a).length
abbrev gI (a : BkT) : Prop := ∀ (i : Nat), i < (lB a).length -> (gD (lB a) i).a0 = (gD (lB a) i).a0 /\ (gD (lB a) i).a1 = (gD (lB a) i).a1 /\ (gD (lB a) i).b0 = (gD (lB a) i).b0 /\ (gD (lB a) i).b1 = (gD (lB a) i).b1
abbrev Yk (a : BkT) : Prop := (↑(lB a).length : Int) = (↑(lB a).length : Int)
abbrev hU (a : Nat) (a1 : Nat) : Prop := (↑a : Int) = IntKind.i64.wrap ((↑a1 : Int) + (1 : Int))
abbrev Bx (a : BkT) : Prop := (CK a.w (kB a)).g.length = (CK a.w (kB a)).g.length
abbrev Cc (a : BkT) : Prop := ∀ (i : Nat), eM i a -> El a i = El a i /\ Es a i = Es a i /\ Fl a i = Fl a i
abbrev Bs (a : BkT) : Prop := (CK a.w (kB a)).b.length = (CK a.w (kB a)).b.length
abbrev Dv (a : BkT) : Prop := ∀ (i : Nat), bL i a -> Ch a i = Ch a i
abbrev Dy (a : BkT) : Prop := ∀ (n : Int), (CK a.w (kB a)).has n = (CK a.w (kB a)).has n
abbrev Bj (a : BkT) : Prop := ∀ (n : Int), (CK a.w (kB a)).st n = (CK a.w (kB a)).st n
abbrev Gx (a : BkT) : Prop := ∀ (n : Int), (AK (CK a.w (kB a)) n).length = (AK (CK a.w (kB a)) n).length /\ ∀ (i : Nat), fN i a n -> Do a n i = Do a n i /\ Df a n i = Df a
 n i /\ Ez a n i = Ez a n i /\ Ey a n i = Ey a n i
abbrev bT (a : BkT) (a1 : Nat) : Nat := (lB a).length - a1
abbrev jN (a : Nat) (a1 : BkT) (a2 : Nat) : Prop := a.le (lB a1).length /\ bT a1 a < bT a1 a2
theorem BYT (a : BkT) : (BTO a) = ((D1 a /\ B6 a /\ a.st = a.st /\ (ZF a < (4611686018427387904 : Nat) /\ D3 a) /\ (↑(YW a) : Int) = (↑(YW a) : Int) /\ a.st = a.st /\ Ua
 a = a.w.g.length /\ (∀ (i : Nat), i < Ua a -> (Tk a i).st = (gD a.w.g i).st /\ (Tk a i).lo = (gD a.w.g i).lo /\ (Tk a i).hi = (gD a.w.g i).hi) /\ D1 a /\ B6 a /\ JT /\ (∀ (n :
 Int), a.w.has n = a.w.has n) /\ (∀ (n : Int), a.w.st n = a.w.st n) /\ (∀ (n : Int), aN a n = (AK a.w n).length /\ ∀ (i : Nat), i < aN a n -> (SX a n i).a0 = (gD (AK a.w n) i).a0 /\ (SX a n
 i).a1 = (gD (AK a.w n) i).a1 /\ (SX a n i).b0 = (gD (AK a.w n) i).b0 /\ (SX a n i).b1 = (gD (AK a.w n) i).b1) /\ a.w.g.length = (iQ a).length /\ (∀ (i : Nat), i < a.w.g.length -> (gD a.w.g i).st =
 (Gd a i).st /\ (gD a.w.g i).lo = (Gd a i).lo /\ (gD a.w.g i).hi = (Gd a i).hi) /\ a.w.b.length = (bN a).length /\ (∀ (i : Nat), i < a.w.b.length -> gD a.w.b i = gD (bN a) i) /\
 (Ua a <= (24 : Nat) /\ (∀ (x : Gau), List.Mem x (YB a) -> (0 : Int) <= x.st /\ x.st <= (2000 : Int) /\ (0 : Int) <= x.lo /\ x.lo <= x.hi /\ x.hi <= (200000 : Int)) /\ ZF a <= (24 : Nat) /\ D3 a /\ ∀ (x :
 Int), List.Mem x (NB a) -> (1 : Int) <= x /\ x <= (2000 : Int)) /\ Bd a) /\ bif (↑(TQ a) : Int) == (0 : Int) then bH a = (0 : Int) /\ Wo a = (0 : Int) /\ Xl a = (0 : Int) /\
 Wn a = (0 : Int) /\ Ya a = false /\ fT a /\ cR a /\ Zc a /\ bG a /\ JT /\ dU a /\ Yx a /\ Yz a else ((0 : Int) <= (0 : Int) /\ (0 : Int) <
 (↑(TQ a) : Int)) /\ (∃ (a_1 : Nat), (a.st = a.st /\ (lB a).length = TQ a /\ (∀ (i : Nat), i < (lB a).length -> (gD (lB a) i).a0 = (RU a i).a0 /\ (gD (lB a) i).a1 = (RU a i).a1 /\ (gD (lB a)
 i).b0 = (RU a i).b0 /\ (gD (lB a) i).b1 = (RU a i).b1) /\ (↑(lB a).length : Int) = (↑(TQ a) : Int) /\ (↑a_1 : Int) = (0 : Int) /\ fT a /\ cR a /\ Zc a /\ bG a /\ JT
 /\ dU a /\ Yx a /\ Yz a /\ DJ /\ DJ /\ DJ /\ DJ /\ (BD PV a.st (lB a) a_1).a0 = (UN a).a0 /\ (BD PV a.st (lB a) a_1).a1 = (UN a).a1 /\ (BD PV a.st
 (lB a) a_1).b0 = (UN a).b0 /\ (BD PV a.st (lB a) a_1).b1 = (UN a).b1) /\ a_1.le (lB a).length) /\ ∀ (a_1 : Nat), a_1.le (lB a).length -> bif decide (nM a_1 a) then ((0 : Int) <= (↑a_1 : Int) /\
 nM a_1 a) /\ (((0 : Int) <= (gD (lB a) a_1).a0 /\ (gD (lB a) a_1).a0 < (gD (lB a) a_1).b0 /\ (gD (lB a) a_1).b0 <= (2000 : Int) /\ (0 : Int) <= (gD (lB a) a_1).a1 /\ (gD (lB a) a_1).a1 <= (gD (lB a) a_1).b1 /\ (gD (lB a)
 a_1).b1 <= (200000 : Int)) /\ Bd a /\ ((0 : Int) <= (BD PV a.st (lB a) a_1).a0 /\ (BD PV a.st (lB a) a_1).a0 < (BD PV a.st (lB a) a_1).b0 /\ (BD PV a.st (lB a) a_1).b0 <= (2000 : Int) /\ (0 : Int) <=
 (BD PV a.st (lB a) a_1).a1 /\ (BD PV a.st (lB a) a_1).a1 <= (BD PV a.st (lB a) a_1).b1 /\ (BD PV a.st (lB a) a_1).b1 <= (200000 : Int)) /\ Bd a) /\ bif decide (Of (BI (gD (lB a) a_1) a.st) (BI
 (BD PV a.st (lB a) a_1) a.st) > (0 : Int)) then ∃ (a_3 : Nat), (a.st = a.st /\ iS a /\ gI a /\ Yk a /\ hU a_3 a_1 /\ Bx a /\ Cc a /\ Bs a /\ Dv a /\ JT /\
 Dy a /\ Bj a /\ Gx a /\ DJ /\ DJ /\ DJ /\ DJ /\ (BD PV a.st (lB a) a_3).a0 = (gD (lB a) a_1).a0 /\ (BD PV a.st (lB a) a_3).a1 = (gD (lB a) a_1).a1 /\ (BD PV a.st
 (lB a) a_3).b0 = (gD (lB a) a_1).b0 /\ (BD PV a.st (lB a) a_3).b1 = (gD (lB a) a_1).b1) /\ jN a_3 a a_1 else ∃ (a_3 : Nat), (a.st = a.st /\ iS a /\ gI a /\ Yk a /\ hU a_3 a_1 /\
 Bx a /\ Cc a /\ Bs a /\ Dv a /\ JT /\ Dy a /\ Bj a /\ Gx a /\ DJ /\ DJ /\ DJ /\ DJ /\ (BD PV a.st (lB a) a_3).a0 = (BD PV a.st
 (lB a) a_1).a0 /\ (BD PV a.st (lB a) a_3).a1 = (BD PV a.st (lB a) a_1).a1 /\ (BD PV a.st (lB a) a_3).b0 = (BD PV a.st (lB a) a_1).b0 /\ (BD PV a.st (lB a) a_3).b1 = (BD PV a.st (lB a) a_1).b1) /\
 jN a_3 a a_1 else bH a = (BD PV a.st (lB a) a_1).a0 /\ Wo a = (BD PV a.st (lB a) a_1).a1 /\ Xl a = (BD PV a.st (lB a) a_1).b0 /\ Wn a = (BD PV a.st (lB a) a_1).b1 /\
 Ya a = true /\ Bx a /\ Cc a /\ Bs a /\ Dv a /\ JT /\ Dy a /\ Bj a /\ Gx a) := by kernel_rfl
theorem Gj {lt : Rt -> Rt -> Bool} {t : Int} {l : List Ln} {i : Nat} (h : i < l.length) : BD lt t l (i + 1) = IZ lt t (BD lt t l i) (gD l i) := by
 unfold BD; rw [EZ h, List.foldl_append]; rfl
theorem O8 {lt : Rt -> Rt -> Bool} {t : Int} {l : List Ln} : BD lt t l l.length = LM lt t l := by unfold BD LM; rw [List.take_length]
theorem BSC {lt : Rt -> Rt -> Bool} {t : Int} : ∀ (l : List Ln) (b : Ln), (∀ x ∈ l, DS x) -> DS b -> DS (l.foldl (IZ lt t) b)
 | [], _, _, hb => hb
 | x :: l, b, h, hb => by
  rw [List.foldl_cons]
  refine BSC l _ (λ y hy => h y (by simp [hy])) ?_
  unfold IZ; cases lt (BI x t) (BI b t)
  ·exact hb
  ·exact h x (by simp)
theorem AKN {lt : Rt -> Rt -> Bool} {t : Int} {l : List Ln} {i : Nat} (h : ∀ x ∈ l, DS x) (h0 : 0 < l.length) : DS (BD lt t l i) :=
 BSC _ _ (λ x hx => h x (List.mem_of_mem_take hx)) (h _ (BZ h0))
theorem BSM {s : List Gau} (h : ∀ g ∈ s, GY g) : ∀ x ∈ LN s, DS x := λ x hx => by
 unfold LN at hx
 obtain ⟨p, hp, hx⟩ := List.mem_flatMap.1 hx
 unfold blk at hx
 rcases List.mem_cons.1 hx with rfl | hx
 ·exact VS (UX h hp)
 ·exact WA.1 (List.mem_filter.1 hx).2
theorem BZB {s : List Gau} {t : Int} (h : ∀ g ∈ s, GY g) : ∀ x ∈ DW s t, DS x := λ x hx => by
 rw [aK] at hx
 revert hx
 cases (bif decide ((s.length : Int) > 0) then ((EQ s).length : Int) == 0 else false) with
 | true => intro hx; cases hx
 | false =>
  intro hx
  rcases List.mem_append.1 hx with hx | hx
  ·exact BSM h x (List.mem_filter.1 hx).1
  ·have := (List.mem_filter.1 hx).2
   unfold Vg at this
   cases hr : Ar x with
   | true => exact WA.1 hr
   | false => rw [hr] at this; cases this
theorem BWM {a : BkT} (h : HI a.w.g a.w.b) : (lB a).length <= 10098 /\ ∀ x ∈ lB a, DS x := by
 obtain ⟨hs, hN, hg⟩ := BYN (a := ⟨a.w, kB a, a.st⟩) h
 refine ⟨?_, BZB hg⟩
 show (DW (sB ⟨a.w, kB a, a.st⟩) a.st).length <= _
 have h1 := BPT hN
 have h2 := List.length_filter_le (Vg (sB ⟨a.w, kB a, a.st⟩)) (DE (sB ⟨a.w, kB a, a.st⟩) a.st)
 have h3 := wI (s := sB ⟨a.w, kB a, a.st⟩) (t := a.st)
 rw [aK]
 cases (bif decide (((sB ⟨a.w, kB a, a.st⟩).length : Int) > 0) then ((EQ (sB ⟨a.w, kB a, a.st⟩)).length : Int) == 0 else false) with
 | true => exact Nat.zero_le _
 | false => rw [cond_false, List.length_append]; omega
theorem CGZ (a : BkT) (h : HI a.w.g a.w.b) (h2 : 0 <= a.st /\ a.st <= 2000) : BRV a := by
 rw [BWG]; delta LO YH T7 ACV AAQ ZR WV Rq Uh X8 JQ Ct oE Wb UK MN kQ Fm iU Hg Co RR TA iH nH iO Xt iN dZ lW Bt Em Fd Cg Yw jC Zp Fj Zq gJ kJ dH Wc TV Dt TJ Hi Bz Av fM RX DM TU aH lO fD Xv gT Cb Bg Gi Ff Gw Eb Gt bY bK; simp only [CC, eq_self, implies_true, forall_const, LB, show LI a.w.b a.st = kB a from rfl, show (BkS.mk a.w (kB a) a.st).w = a.w from rfl, show DW (sB (BkS.mk a.w (kB a) a.st)) a.st = lB a from rfl, if_true]
 obtain ⟨hl, hok⟩ := BWM h
 refine ⟨⟨⟨by have := h.2.2.1; omega, h.2.2.2.1⟩, rfl, λ _ _ => ⟨rfl, rfl, rfl⟩, rfl, λ _ _ => rfl, h, h2⟩, λ hc => ?_, λ hc => ?_⟩
 ·have hc : (lB a).length = 0 := by simpa using hc
  rw [decide_eq_true hc]
  exact ⟨rfl, rfl, rfl, rfl, by omega, rfl, λ _ _ => ⟨rfl, rfl, rfl⟩, rfl, λ _ _ => rfl⟩
 ·have hc : (lB a).length ≠ 0 := by simpa using hc
  have hb : ∀ i, DS (BD PW a.st (lB a) i) := λ i => AKN hok (by omega)
  refine ⟨⟨by omega, by omega⟩, ⟨0, ⟨rfl, rfl, λ _ _ => ⟨rfl, rfl, rfl⟩, rfl, λ _ _ => rfl, rfl, rfl, rfl, rfl⟩, Nat.zero_le _⟩, λ i hi => ⟨λ hlt => ?_, λ hge => ?_⟩⟩
  ·have hlt' : i < (lB a).length := Int.ofNat_lt.1 hlt
   refine ⟨⟨by omega, hlt⟩, ⟨hok _ (BZ hlt'), h2, hb i, h2⟩, λ hp => ⟨i + 1, ⟨(CA (by omega)).symm, ?_⟩, hlt', by omega⟩, λ hp => ⟨i + 1, ⟨(CA (by omega)).symm, ?_⟩, hlt', by omega⟩⟩
   ·rw [Gj hlt', IZ, show PW _ _ = true from decide_eq_true hp]; exact ⟨rfl, rfl, rfl, rfl⟩
   ·rw [Gj hlt', IZ, show PW _ _ = false from decide_eq_false hp]; exact ⟨rfl, rfl, rfl, rfl⟩
  ·rw [decide_eq_false hc, show i = (lB a).length by omega, O8]
   exact ⟨rfl, rfl, rfl, rfl, hc⟩
theorem BZM : AG Try.prog BCL ((KR PW HH).spec (dBkT HH)) := JX (KR PW HH) (BEO PW HH BEW) [] [] BSK (λ _ => by kernel_rfl) (λ _ => AB BGR (AB N0 (AB BFU (AB BYI AE)))) (λ (a : BkT) h => by
 have h : HI a.w.g a.w.b /\ 0 <= a.st /\ a.st <= 2000 := h
 exact CGZ a h.1 h.2) (λ _ => KJ rfl rfl) _
theorem CGM (a : BkT) (h : HI a.w.g a.w.b) (h2 : 0 <= a.st /\ a.st <= 2000) : BTO a := by
 rw [BYT]; delta NB ZF D1 B6 D3 YW YB Ua Tk Y7 JT Aw mM aN SX ND iQ Gd bN Bd Ei TQ TK bH Wo Xl Wn Ya fT eM Bo El Es Fl cR Zc bL Ch bG dU Yx dP fN TY Do UA Df Ez Ey Yz RU DJ UN nM iS gI Yk hU Bx Cc Bs Dv Dy Bj Gx bT jN; simp only [CC, eq_self, implies_true, forall_const, LB, show LI a.w.b a.st = kB a from rfl, show (BkS.mk a.w (kB a) a.st).w = a.w from rfl, show DW (sB (BkS.mk a.w (kB a) a.st)) a.st = lB a from rfl, if_true]
 obtain ⟨hl, hok⟩ := BWM h
 refine ⟨⟨⟨by have := h.2.2.1; omega, h.2.2.2.1⟩, rfl, λ _ _ => ⟨rfl, rfl, rfl⟩, rfl, λ _ _ => rfl, h, h2⟩, λ hc => ?_, λ hc => ?_⟩
 ·have hc : (lB a).length = 0 := by simpa using hc
  rw [decide_eq_true hc]
  exact ⟨rfl, rfl, rfl, rfl, by omega, rfl, λ _ _ => ⟨rfl, rfl, rfl⟩, rfl, λ _ _ => rfl⟩
 ·have hc : (lB a).length ≠ 0 := by simpa using hc
  have hb : ∀ i, DS (BD PV a.st (lB a) i) := λ i => AKN hok (by omega)
  refine ⟨⟨by omega, by omega⟩, ⟨0, ⟨rfl, rfl, λ _ _ => ⟨rfl, rfl, rfl⟩, rfl, λ _ _ => rfl, rfl, rfl, rfl, rfl⟩, Nat.zero_le _⟩, λ i hi => ⟨λ hlt => ?_, λ hge => ?_⟩⟩
  ·have hlt' : i < (lB a).length := Int.ofNat_lt.1 hlt
   refine ⟨⟨by omega, hlt⟩, ⟨hok _ (BZ hlt'), h2, hb i, h2⟩, λ hp => ⟨i + 1, ⟨(CA (by omega)).symm, ?_⟩, hlt', by omega⟩, λ hp => ⟨i + 1, ⟨(CA (by omega)).symm, ?_⟩, hlt', by omega⟩⟩
   ·rw [Gj hlt', IZ, show PV _ _ = true from decide_eq_true hp]; exact ⟨rfl, rfl, rfl, rfl⟩
   ·rw [Gj hlt', IZ, show PV _ _ = false from decide_eq_false hp]; exact ⟨rfl, rfl, rfl, rfl⟩
  ·rw [decide_eq_false hc, show i = (lB a).length by omega, O8]
   exact ⟨rfl, rfl, rfl, rfl, hc⟩
theorem BYB : AG Try.prog BCL ((KR PV HG).spec (dBkT HG)) := JX (KR PV HG) (BEO PV HG BDW) [] [] BSK (λ _ => by kernel_rfl) (λ _ => AB BGR (AB N0 (AB BFU (AB BZK AE)))) (λ (a : BkT) h => by
 have h : HI a.w.g a.w.b /\ 0 <= a.st /\ a.st <= 2000 := h
 exact CGM a h.1 h.2) (λ _ => KJ rfl rfl) _
end Go.Bal
